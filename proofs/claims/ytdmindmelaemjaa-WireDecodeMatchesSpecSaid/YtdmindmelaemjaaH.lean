/- Lemmas: an abstract interpreter, and what the functions compute. -/
import Derived.Test.YtdmindmelaemjaaC
import Derived.Test.YtdmindmelaemjaaE
import Derived.Test.YtdmindmelaemjaaD
set_option linter.unusedSimpArgs false
set_option linter.unusedVariables false
set_option linter.unusedSectionVars false
section
namespace Go.Abs
set_option maxRecDepth 100000
/-- custody custodylaw01.WireEncodeMatchesSpec = 64; calls custodylaw01.few = 62, custodylaw01.sanity = 63, custodyref01.Bytes = 29, custodyref01.Digests = 44, custodyref01.Int = 30, custodyref01.Ints = 40, custodyref01.Same = 38, custodyref01.Strings = 42, wire.Bytes = 7, wire.Digests = 43, wire.Int = 12, wire.Ints = 39, wire.Strings = 41 -/
def f_custodylaw01_WireEncodeMatchesSpec_r0 : ACode :=
  .seq (
    .region [10] [] [
      ⟨(some 26), none, .call 63 [] []⟩,
      ⟨(some 27), none, .mv false (.s 26)⟩,
      ⟨(some 28), (some (27, true)), .mv false (.s 0)⟩,
      ⟨(some 29), (some (27, true)), .call 12 [(.s 28)] []⟩,
      ⟨(some 30), (some (27, true)), .mv false (.s 0)⟩,
      ⟨(some 31), (some (27, true)), .call 30 [(.s 30)] []⟩,
      ⟨(some 32), (some (27, true)), .call 38 [(.s 29), (.s 31)] []⟩,
      ⟨(some 33), none, .pick (.s 27) (.s 32) (.c (bo false))⟩,
      ⟨(some 34), none, .mv false (.s 33)⟩,
      ⟨(some 35), (some (34, true)), .mv false (.s 1)⟩,
      ⟨(some 36), (some (34, true)), .call 7 [(.s 35)] []⟩,
      ⟨(some 37), (some (34, true)), .mv false (.s 1)⟩,
      ⟨(some 38), (some (34, true)), .call 29 [(.s 37)] []⟩,
      ⟨(some 39), (some (34, true)), .call 38 [(.s 36), (.s 38)] []⟩,
      ⟨(some 40), none, .pick (.s 34) (.s 39) (.c (bo false))⟩,
      ⟨(some 41), none, .mv false (.s 40)⟩,
      ⟨(some 42), (some (41, true)), .mv false (.s 2)⟩,
      ⟨(some 43), (some (41, true)), .call 39 [(.s 42)] []⟩,
      ⟨(some 44), (some (41, true)), .mv false (.s 2)⟩,
      ⟨(some 45), (some (41, true)), .call 40 [(.s 44)] []⟩,
      ⟨(some 46), (some (41, true)), .call 38 [(.s 43), (.s 45)] []⟩,
      ⟨(some 47), none, .pick (.s 41) (.s 46) (.c (bo false))⟩,
      ⟨(some 48), none, .mv false (.s 47)⟩,
      ⟨(some 49), (some (48, true)), .mv false (.s 3)⟩,
      ⟨(some 50), (some (48, true)), .call 41 [(.s 49)] []⟩,
      ⟨(some 51), (some (48, true)), .mv false (.s 3)⟩,
      ⟨(some 52), (some (48, true)), .call 42 [(.s 51)] []⟩,
      ⟨(some 53), (some (48, true)), .call 38 [(.s 50), (.s 52)] []⟩,
      ⟨(some 54), none, .pick (.s 48) (.s 53) (.c (bo false))⟩,
      ⟨(some 55), none, .mv false (.s 54)⟩,
      ⟨(some 56), (some (55, true)), .mv false (.s 4)⟩,
      ⟨(some 57), (some (55, true)), .call 43 [(.s 56)] []⟩,
      ⟨(some 58), (some (55, true)), .mv false (.s 4)⟩,
      ⟨(some 59), (some (55, true)), .call 44 [(.s 58)] []⟩,
      ⟨(some 60), (some (55, true)), .call 38 [(.s 57), (.s 59)] []⟩,
      ⟨(some 61), none, .pick (.s 55) (.s 60) (.c (bo false))⟩,
      ⟨(some 10), none, .mv false (.s 61)⟩]) (
  .ret)
def f_custodylaw01_WireEncodeMatchesSpec : AFun :=
 { n := 5, wr := [], res := [.t 10], body :=
    .seq (
      .region [] [] [
        ⟨(some 10), none, .mv false (.c (bo false))⟩]) (
    .seq (
      .seq (
        .region [24] [] [
          ⟨(some 11), none, .mv false (.s 1)⟩,
          ⟨(some 12), none, .len true (.s 11)⟩,
          ⟨(some 13), none, .mv false (.s 2)⟩,
          ⟨(some 14), none, .len false (.s 13)⟩,
          ⟨(some 15), none, .bin .add (.s 12) (.s 14)⟩,
          ⟨(some 16), none, .mv false (.s 4)⟩,
          ⟨(some 17), none, .len false (.s 16)⟩,
          ⟨(some 18), none, .bin .add (.s 15) (.s 17)⟩,
          ⟨(some 19), none, .bin .gtr (.s 18) (.c (i64 2000))⟩,
          ⟨(some 20), none, .mv false (.s 19)⟩,
          ⟨(some 21), (some (20, false)), .mv false (.s 3)⟩,
          ⟨(some 22), (some (20, false)), .call 62 [(.s 21)] []⟩,
          ⟨(some 23), (some (20, false)), .un .not (.s 22)⟩,
          ⟨(some 24), none, .pick (.s 20) (.c (bo true)) (.s 23)⟩]) (
      .cond (.s 24) (
        .seq (
          .region [10] [] [
            ⟨(some 25), none, .call 63 [] []⟩,
            ⟨(some 10), none, .mv false (.s 25)⟩]) (
        .ret)) (
        .ghost (.keep []) .skip))) (
    f_custodylaw01_WireEncodeMatchesSpec_r0)) }

/-- custody custodylaw01.WireDecodeMatchesSpec = 65; calls custodylaw01.sanity = 63, custodyref01.GetBytes = 50, custodyref01.GetDigests = 59, custodyref01.GetInt = 46, custodyref01.GetInts = 53, custodyref01.GetStrings = 56, custodyref01.SameDigests = 60, custodyref01.SameInts = 54, custodyref01.SameTexts = 57, wire.GetBytes = 48, wire.GetDigests = 58, wire.GetInt = 45, wire.GetInts = 52, wire.GetStrings = 55 -/
def f_custodylaw01_WireDecodeMatchesSpec_r4 : ACode :=
  .seq (
    .region [27, 28, 29] [] [
      ⟨(some 140), none, .mv false (.s 0)⟩,
      ⟨(some 141), none, .call 58 [(.s 140)] []⟩,
      ⟨(some 139), none, .mv false (.s 141)⟩,
      ⟨(some 142), none, .extract 0 (.s 139)⟩,
      ⟨(some 143), none, .extract 1 (.s 139)⟩,
      ⟨(some 144), none, .extract 2 (.s 139)⟩,
      ⟨(some 27), none, .mv true (.s 142)⟩,
      ⟨(some 28), none, .mv false (.s 143)⟩,
      ⟨(some 29), none, .mv false (.s 144)⟩]) (
  .seq (
    .region [27, 28, 29, 30, 31, 32] [] [
      ⟨(some 146), none, .mv false (.s 0)⟩,
      ⟨(some 147), none, .call 59 [(.s 146)] []⟩,
      ⟨(some 145), none, .mv false (.s 147)⟩,
      ⟨(some 148), none, .extract 0 (.s 145)⟩,
      ⟨(some 149), none, .extract 1 (.s 145)⟩,
      ⟨(some 150), none, .extract 2 (.s 145)⟩,
      ⟨(some 30), none, .mv true (.s 148)⟩,
      ⟨(some 31), none, .mv false (.s 149)⟩,
      ⟨(some 32), none, .mv false (.s 150)⟩]) (
  .seq (
    .region [2] [] [
      ⟨(some 151), none, .call 63 [] []⟩,
      ⟨(some 152), none, .mv false (.s 151)⟩,
      ⟨(some 153), (some (152, true)), .mv true (.s 27)⟩,
      ⟨(some 154), (some (152, true)), .mv true (.s 30)⟩,
      ⟨(some 155), (some (152, true)), .call 60 [(.s 153), (.s 154)] []⟩,
      ⟨(some 156), none, .pick (.s 152) (.s 155) (.c (bo false))⟩,
      ⟨(some 157), none, .mv false (.s 156)⟩,
      ⟨(some 158), (some (157, true)), .mv false (.s 28)⟩,
      ⟨(some 159), (some (157, true)), .mv false (.s 31)⟩,
      ⟨(some 160), (some (157, true)), .bin .eql (.s 158) (.s 159)⟩,
      ⟨(some 161), none, .pick (.s 157) (.s 160) (.c (bo false))⟩,
      ⟨(some 162), none, .mv false (.s 161)⟩,
      ⟨(some 163), (some (162, true)), .mv false (.s 29)⟩,
      ⟨(some 164), (some (162, true)), .mv false (.s 32)⟩,
      ⟨(some 165), (some (162, true)), .bin .eql (.s 163) (.s 164)⟩,
      ⟨(some 166), none, .pick (.s 162) (.s 165) (.c (bo false))⟩,
      ⟨(some 2), none, .mv false (.s 166)⟩]) (
  .ret)))
def f_custodylaw01_WireDecodeMatchesSpec_r3 : ACode :=
  .seq (
    .region [21, 22, 23] [] [
      ⟨(some 114), none, .mv false (.s 0)⟩,
      ⟨(some 115), none, .call 55 [(.s 114)] []⟩,
      ⟨(some 113), none, .mv false (.s 115)⟩,
      ⟨(some 116), none, .extract 0 (.s 113)⟩,
      ⟨(some 117), none, .extract 1 (.s 113)⟩,
      ⟨(some 118), none, .extract 2 (.s 113)⟩,
      ⟨(some 21), none, .mv true (.s 116)⟩,
      ⟨(some 22), none, .mv false (.s 117)⟩,
      ⟨(some 23), none, .mv false (.s 118)⟩]) (
  .seq (
    .region [21, 22, 23, 24, 25, 26] [] [
      ⟨(some 120), none, .mv false (.s 0)⟩,
      ⟨(some 121), none, .call 56 [(.s 120)] []⟩,
      ⟨(some 119), none, .mv false (.s 121)⟩,
      ⟨(some 122), none, .extract 0 (.s 119)⟩,
      ⟨(some 123), none, .extract 1 (.s 119)⟩,
      ⟨(some 124), none, .extract 2 (.s 119)⟩,
      ⟨(some 24), none, .mv true (.s 122)⟩,
      ⟨(some 25), none, .mv false (.s 123)⟩,
      ⟨(some 26), none, .mv false (.s 124)⟩]) (
  .seq (
    .seq (
      .region [138] [] [
        ⟨(some 125), none, .mv true (.s 21)⟩,
        ⟨(some 126), none, .mv true (.s 24)⟩,
        ⟨(some 127), none, .call 57 [(.s 125), (.s 126)] []⟩,
        ⟨(some 128), none, .un .not (.s 127)⟩,
        ⟨(some 129), none, .mv false (.s 128)⟩,
        ⟨(some 130), (some (129, false)), .mv false (.s 22)⟩,
        ⟨(some 131), (some (129, false)), .mv false (.s 25)⟩,
        ⟨(some 132), (some (129, false)), .bin .neq (.s 130) (.s 131)⟩,
        ⟨(some 133), none, .pick (.s 129) (.c (bo true)) (.s 132)⟩,
        ⟨(some 134), none, .mv false (.s 133)⟩,
        ⟨(some 135), (some (134, false)), .mv false (.s 23)⟩,
        ⟨(some 136), (some (134, false)), .mv false (.s 26)⟩,
        ⟨(some 137), (some (134, false)), .bin .neq (.s 135) (.s 136)⟩,
        ⟨(some 138), none, .pick (.s 134) (.c (bo true)) (.s 137)⟩]) (
    .cond (.s 138) (
      .seq (
        .region [2] [] [
          ⟨(some 2), none, .mv false (.c (bo false))⟩]) (
      .ret)) (
      .ghost (.keep []) .skip))) (
  f_custodylaw01_WireDecodeMatchesSpec_r4)))
def f_custodylaw01_WireDecodeMatchesSpec_r2 : ACode :=
  .seq (
    .region [15, 16, 17] [] [
      ⟨(some 88), none, .mv false (.s 0)⟩,
      ⟨(some 89), none, .call 52 [(.s 88)] []⟩,
      ⟨(some 87), none, .mv false (.s 89)⟩,
      ⟨(some 90), none, .extract 0 (.s 87)⟩,
      ⟨(some 91), none, .extract 1 (.s 87)⟩,
      ⟨(some 92), none, .extract 2 (.s 87)⟩,
      ⟨(some 15), none, .mv true (.s 90)⟩,
      ⟨(some 16), none, .mv false (.s 91)⟩,
      ⟨(some 17), none, .mv false (.s 92)⟩]) (
  .seq (
    .region [15, 16, 17, 18, 19, 20] [] [
      ⟨(some 94), none, .mv false (.s 0)⟩,
      ⟨(some 95), none, .call 53 [(.s 94)] []⟩,
      ⟨(some 93), none, .mv false (.s 95)⟩,
      ⟨(some 96), none, .extract 0 (.s 93)⟩,
      ⟨(some 97), none, .extract 1 (.s 93)⟩,
      ⟨(some 98), none, .extract 2 (.s 93)⟩,
      ⟨(some 18), none, .mv true (.s 96)⟩,
      ⟨(some 19), none, .mv false (.s 97)⟩,
      ⟨(some 20), none, .mv false (.s 98)⟩]) (
  .seq (
    .seq (
      .region [112] [] [
        ⟨(some 99), none, .mv true (.s 15)⟩,
        ⟨(some 100), none, .mv true (.s 18)⟩,
        ⟨(some 101), none, .call 54 [(.s 99), (.s 100)] []⟩,
        ⟨(some 102), none, .un .not (.s 101)⟩,
        ⟨(some 103), none, .mv false (.s 102)⟩,
        ⟨(some 104), (some (103, false)), .mv false (.s 16)⟩,
        ⟨(some 105), (some (103, false)), .mv false (.s 19)⟩,
        ⟨(some 106), (some (103, false)), .bin .neq (.s 104) (.s 105)⟩,
        ⟨(some 107), none, .pick (.s 103) (.c (bo true)) (.s 106)⟩,
        ⟨(some 108), none, .mv false (.s 107)⟩,
        ⟨(some 109), (some (108, false)), .mv false (.s 17)⟩,
        ⟨(some 110), (some (108, false)), .mv false (.s 20)⟩,
        ⟨(some 111), (some (108, false)), .bin .neq (.s 109) (.s 110)⟩,
        ⟨(some 112), none, .pick (.s 108) (.c (bo true)) (.s 111)⟩]) (
    .cond (.s 112) (
      .seq (
        .region [2] [] [
          ⟨(some 2), none, .mv false (.c (bo false))⟩]) (
      .ret)) (
      .ghost (.keep []) .skip))) (
  f_custodylaw01_WireDecodeMatchesSpec_r3)))
def f_custodylaw01_WireDecodeMatchesSpec_r1 : ACode :=
  .seq (
    .region [9, 10, 11] [] [
      ⟨(some 63), none, .mv false (.s 0)⟩,
      ⟨(some 64), none, .call 48 [(.s 63)] []⟩,
      ⟨(some 62), none, .mv false (.s 64)⟩,
      ⟨(some 65), none, .extract 0 (.s 62)⟩,
      ⟨(some 66), none, .extract 1 (.s 62)⟩,
      ⟨(some 67), none, .extract 2 (.s 62)⟩,
      ⟨(some 9), none, .mv false (.s 65)⟩,
      ⟨(some 10), none, .mv false (.s 66)⟩,
      ⟨(some 11), none, .mv false (.s 67)⟩]) (
  .seq (
    .region [9, 10, 11, 12, 13, 14] [] [
      ⟨(some 69), none, .mv false (.s 0)⟩,
      ⟨(some 70), none, .call 50 [(.s 69)] []⟩,
      ⟨(some 68), none, .mv false (.s 70)⟩,
      ⟨(some 71), none, .extract 0 (.s 68)⟩,
      ⟨(some 72), none, .extract 1 (.s 68)⟩,
      ⟨(some 73), none, .extract 2 (.s 68)⟩,
      ⟨(some 12), none, .mv false (.s 71)⟩,
      ⟨(some 13), none, .mv false (.s 72)⟩,
      ⟨(some 14), none, .mv false (.s 73)⟩]) (
  .seq (
    .seq (
      .region [86] [] [
        ⟨(some 74), none, .mv false (.s 9)⟩,
        ⟨(some 75), none, .mv false (.s 12)⟩,
        ⟨(some 76), none, .bin .neq (.s 74) (.s 75)⟩,
        ⟨(some 77), none, .mv false (.s 76)⟩,
        ⟨(some 78), (some (77, false)), .mv false (.s 10)⟩,
        ⟨(some 79), (some (77, false)), .mv false (.s 13)⟩,
        ⟨(some 80), (some (77, false)), .bin .neq (.s 78) (.s 79)⟩,
        ⟨(some 81), none, .pick (.s 77) (.c (bo true)) (.s 80)⟩,
        ⟨(some 82), none, .mv false (.s 81)⟩,
        ⟨(some 83), (some (82, false)), .mv false (.s 11)⟩,
        ⟨(some 84), (some (82, false)), .mv false (.s 14)⟩,
        ⟨(some 85), (some (82, false)), .bin .neq (.s 83) (.s 84)⟩,
        ⟨(some 86), none, .pick (.s 82) (.c (bo true)) (.s 85)⟩]) (
    .cond (.s 86) (
      .seq (
        .region [2] [] [
          ⟨(some 2), none, .mv false (.c (bo false))⟩]) (
      .ret)) (
      .ghost (.keep []) .skip))) (
  f_custodylaw01_WireDecodeMatchesSpec_r2)))
def f_custodylaw01_WireDecodeMatchesSpec_r0 : ACode :=
  .seq (
    .region [3, 4, 5] [] [
      ⟨(some 38), none, .mv false (.s 0)⟩,
      ⟨(some 39), none, .call 45 [(.s 38)] []⟩,
      ⟨(some 37), none, .mv false (.s 39)⟩,
      ⟨(some 40), none, .extract 0 (.s 37)⟩,
      ⟨(some 41), none, .extract 1 (.s 37)⟩,
      ⟨(some 42), none, .extract 2 (.s 37)⟩,
      ⟨(some 3), none, .mv false (.s 40)⟩,
      ⟨(some 4), none, .mv false (.s 41)⟩,
      ⟨(some 5), none, .mv false (.s 42)⟩]) (
  .seq (
    .region [3, 4, 5, 6, 7, 8] [] [
      ⟨(some 44), none, .mv false (.s 0)⟩,
      ⟨(some 45), none, .call 46 [(.s 44)] []⟩,
      ⟨(some 43), none, .mv false (.s 45)⟩,
      ⟨(some 46), none, .extract 0 (.s 43)⟩,
      ⟨(some 47), none, .extract 1 (.s 43)⟩,
      ⟨(some 48), none, .extract 2 (.s 43)⟩,
      ⟨(some 6), none, .mv false (.s 46)⟩,
      ⟨(some 7), none, .mv false (.s 47)⟩,
      ⟨(some 8), none, .mv false (.s 48)⟩]) (
  .seq (
    .seq (
      .region [61] [] [
        ⟨(some 49), none, .mv false (.s 3)⟩,
        ⟨(some 50), none, .mv false (.s 6)⟩,
        ⟨(some 51), none, .bin .neq (.s 49) (.s 50)⟩,
        ⟨(some 52), none, .mv false (.s 51)⟩,
        ⟨(some 53), (some (52, false)), .mv false (.s 4)⟩,
        ⟨(some 54), (some (52, false)), .mv false (.s 7)⟩,
        ⟨(some 55), (some (52, false)), .bin .neq (.s 53) (.s 54)⟩,
        ⟨(some 56), none, .pick (.s 52) (.c (bo true)) (.s 55)⟩,
        ⟨(some 57), none, .mv false (.s 56)⟩,
        ⟨(some 58), (some (57, false)), .mv false (.s 5)⟩,
        ⟨(some 59), (some (57, false)), .mv false (.s 8)⟩,
        ⟨(some 60), (some (57, false)), .bin .neq (.s 58) (.s 59)⟩,
        ⟨(some 61), none, .pick (.s 57) (.c (bo true)) (.s 60)⟩]) (
    .cond (.s 61) (
      .seq (
        .region [2] [] [
          ⟨(some 2), none, .mv false (.c (bo false))⟩]) (
      .ret)) (
      .ghost (.keep []) .skip))) (
  f_custodylaw01_WireDecodeMatchesSpec_r1)))
def f_custodylaw01_WireDecodeMatchesSpec : AFun :=
 { n := 1, wr := [], res := [.t 2], body :=
    .seq (
      .region [] [] [
        ⟨(some 2), none, .mv false (.c (bo false))⟩]) (
    .seq (
      .seq (
        .region [35] [] [
          ⟨(some 33), none, .mv false (.s 0)⟩,
          ⟨(some 34), none, .len false (.s 33)⟩,
          ⟨(some 35), none, .bin .gtr (.s 34) (.c (i64 2000))⟩]) (
      .cond (.s 35) (
        .seq (
          .region [2] [] [
            ⟨(some 36), none, .call 63 [] []⟩,
            ⟨(some 2), none, .mv false (.s 36)⟩]) (
        .ret)) (
        .ghost (.keep []) .skip))) (
    f_custodylaw01_WireDecodeMatchesSpec_r0)) }

/-- custody custodylaw01.WireOrder = 66; calls custodylaw01.sanity = 63, wire.Int = 12 -/
def f_custodylaw01_WireOrder : AFun :=
 { n := 2, wr := [], res := [.t 4], body :=
    .seq (
      .region [] [] [
        ⟨(some 4), none, .mv false (.c (bo false))⟩]) (
    .seq (
      .region [5, 6] [] [
        ⟨(some 8), none, .mv false (.s 0)⟩,
        ⟨(some 9), none, .call 12 [(.s 8)] []⟩,
        ⟨(some 10), none, .toStr none (.s 9)⟩,
        ⟨(some 11), none, .mv false (.s 1)⟩,
        ⟨(some 12), none, .call 12 [(.s 11)] []⟩,
        ⟨(some 13), none, .toStr none (.s 12)⟩,
        ⟨(some 5), none, .mv false (.s 10)⟩,
        ⟨(some 6), none, .mv false (.s 13)⟩]) (
    .seq (
      .region [5, 6, 7] [] [
        ⟨(some 14), none, .mv false (.s 5)⟩,
        ⟨(some 15), none, .len true (.s 14)⟩,
        ⟨(some 16), none, .mv false (.s 6)⟩,
        ⟨(some 17), none, .len true (.s 16)⟩,
        ⟨(some 18), none, .min2 (.s 15) (.s 17)⟩,
        ⟨(some 7), none, .mv false (.s 18)⟩]) (
    .seq (
      .region [4] [] [
        ⟨(some 19), none, .call 63 [] []⟩,
        ⟨(some 20), none, .mv false (.s 19)⟩,
        ⟨(some 21), (some (20, true)), .mv false (.s 0)⟩,
        ⟨(some 22), (some (20, true)), .mv false (.s 1)⟩,
        ⟨(some 23), (some (20, true)), .bin .lss (.s 21) (.s 22)⟩,
        ⟨(some 24), (some (20, true)), .mv false (.s 5)⟩,
        ⟨(some 25), (some (20, true)), .mv false (.s 6)⟩,
        ⟨(some 26), (some (20, true)), .bin .lss (.s 24) (.s 25)⟩,
        ⟨(some 27), (some (20, true)), .eqb false (.s 23) (.s 26)⟩,
        ⟨(some 28), none, .pick (.s 20) (.s 27) (.c (bo false))⟩,
        ⟨(some 29), none, .mv false (.s 28)⟩,
        ⟨(some 30), (some (29, true)), .mv false (.s 0)⟩,
        ⟨(some 31), (some (29, true)), .mv false (.s 1)⟩,
        ⟨(some 32), (some (29, true)), .bin .eql (.s 30) (.s 31)⟩,
        ⟨(some 33), (some (29, true)), .mv false (.s 5)⟩,
        ⟨(some 34), (some (29, true)), .mv false (.s 6)⟩,
        ⟨(some 35), (some (29, true)), .bin .eql (.s 33) (.s 34)⟩,
        ⟨(some 36), (some (29, true)), .eqb false (.s 32) (.s 35)⟩,
        ⟨(some 37), none, .pick (.s 29) (.s 36) (.c (bo false))⟩,
        ⟨(some 38), none, .mv false (.s 37)⟩,
        ⟨(some 39), (some (38, true)), .mv false (.s 5)⟩,
        ⟨(some 40), (some (38, true)), .mv false (.s 7)⟩,
        ⟨(some 41), (some (38, true)), .slStr (.s 39) none (some (.s 40))⟩,
        ⟨(some 42), (some (38, true)), .mv false (.s 6)⟩,
        ⟨(some 43), (some (38, true)), .mv false (.s 7)⟩,
        ⟨(some 44), (some (38, true)), .slStr (.s 42) none (some (.s 43))⟩,
        ⟨(some 45), (some (38, true)), .bin .eql (.s 41) (.s 44)⟩,
        ⟨(some 46), (some (38, true)), .mv false (.s 0)⟩,
        ⟨(some 47), (some (38, true)), .mv false (.s 1)⟩,
        ⟨(some 48), (some (38, true)), .bin .eql (.s 46) (.s 47)⟩,
        ⟨(some 49), (some (38, true)), .eqb false (.s 45) (.s 48)⟩,
        ⟨(some 50), none, .pick (.s 38) (.s 49) (.c (bo false))⟩,
        ⟨(some 4), none, .mv false (.s 50)⟩]) (
    .ret)))) }

/-- custody custodylaw01.WireIntRoundTrip = 67; calls custodylaw01.sanity = 63, wire.GetInt = 45, wire.Int = 12 -/
def f_custodylaw01_WireIntRoundTrip_r0 : ACode :=
  .seq (
    .region [5] [] [
      ⟨(some 13), none, .mv false (.s 0)⟩,
      ⟨(some 14), none, .call 12 [(.s 13)] []⟩,
      ⟨(some 5), none, .mv true (.s 14)⟩]) (
  .seq (
    .region [5, 6, 7, 8] [] [
      ⟨(some 16), none, .mv false (.s 5)⟩,
      ⟨(some 17), none, .mv false (.s 5)⟩,
      ⟨(some 18), none, .len false (.s 17)⟩,
      ⟨(some 19), none, .mv false (.s 5)⟩,
      ⟨(some 20), none, .len false (.s 19)⟩,
      ⟨(some 21), none, .slSl 1 (.s 16) none (some (.s 18)) (some (.s 20))⟩,
      ⟨(some 22), none, .mv false (.s 1)⟩,
      ⟨(some 23), none, .appendC 1 1 false none none (.s 21) (.s 22)⟩,
      ⟨(some 24), none, .call 45 [(.s 23)] []⟩,
      ⟨(some 15), none, .mv false (.s 24)⟩,
      ⟨(some 25), none, .extract 0 (.s 15)⟩,
      ⟨(some 26), none, .extract 1 (.s 15)⟩,
      ⟨(some 27), none, .extract 2 (.s 15)⟩,
      ⟨(some 6), none, .mv false (.s 25)⟩,
      ⟨(some 7), none, .mv false (.s 26)⟩,
      ⟨(some 8), none, .mv false (.s 27)⟩]) (
  .seq (
    .region [4] [] [
      ⟨(some 28), none, .call 63 [] []⟩,
      ⟨(some 29), none, .mv false (.s 28)⟩,
      ⟨(some 30), (some (29, true)), .mv false (.s 6)⟩,
      ⟨(some 31), (some (29, true)), .mv false (.s 0)⟩,
      ⟨(some 32), (some (29, true)), .bin .eql (.s 30) (.s 31)⟩,
      ⟨(some 33), none, .pick (.s 29) (.s 32) (.c (bo false))⟩,
      ⟨(some 34), none, .mv false (.s 33)⟩,
      ⟨(some 35), (some (34, true)), .mv false (.s 7)⟩,
      ⟨(some 36), (some (34, true)), .mv true (.s 5)⟩,
      ⟨(some 37), (some (34, true)), .len false (.s 36)⟩,
      ⟨(some 38), (some (34, true)), .bin .eql (.s 35) (.s 37)⟩,
      ⟨(some 39), none, .pick (.s 34) (.s 38) (.c (bo false))⟩,
      ⟨(some 40), none, .mv false (.s 39)⟩,
      ⟨(some 41), (some (40, true)), .mv false (.s 8)⟩,
      ⟨(some 42), (some (40, true)), .bin .eql (.s 41) (.c (i64 0))⟩,
      ⟨(some 43), none, .pick (.s 40) (.s 42) (.c (bo false))⟩,
      ⟨(some 44), none, .mv false (.s 43)⟩,
      ⟨(some 45), (some (44, true)), .mv false (.s 7)⟩,
      ⟨(some 46), (some (44, true)), .bin .geq (.s 45) (.c (i64 1))⟩,
      ⟨(some 47), none, .pick (.s 44) (.s 46) (.c (bo false))⟩,
      ⟨(some 48), none, .mv false (.s 47)⟩,
      ⟨(some 49), (some (48, true)), .mv false (.s 7)⟩,
      ⟨(some 50), (some (48, true)), .bin .leq (.s 49) (.c (i64 9))⟩,
      ⟨(some 51), none, .pick (.s 48) (.s 50) (.c (bo false))⟩,
      ⟨(some 4), none, .mv false (.s 51)⟩]) (
  .ret)))
def f_custodylaw01_WireIntRoundTrip : AFun :=
 { n := 2, wr := [], res := [.t 4], body :=
    .seq (
      .region [] [] [
        ⟨(some 4), none, .mv false (.c (bo false))⟩]) (
    .seq (
      .seq (
        .region [11] [] [
          ⟨(some 9), none, .mv false (.s 1)⟩,
          ⟨(some 10), none, .len false (.s 9)⟩,
          ⟨(some 11), none, .bin .gtr (.s 10) (.c (i64 2000))⟩]) (
      .cond (.s 11) (
        .seq (
          .region [4] [] [
            ⟨(some 12), none, .call 63 [] []⟩,
            ⟨(some 4), none, .mv false (.s 12)⟩]) (
        .ret)) (
        .ghost (.keep []) .skip))) (
    f_custodylaw01_WireIntRoundTrip_r0)) }

/-- custody custodylaw01.WireCanonical = 69; calls custodylaw01.WireCanonical$1 = 68, custodylaw01.sanity = 63, wire.Bytes = 7, wire.Digests = 43, wire.GetBytes = 48, wire.GetDigests = 58, wire.GetInt = 45, wire.GetInts = 52, wire.GetStrings = 55, wire.Int = 12, wire.Ints = 39, wire.Strings = 41 -/
def f_custodylaw01_WireCanonical_r0 : ACode :=
  .seq (
    .region [1, 3] [] [
      ⟨(some 23), none, .mkfn 68 [] [(.s 1)]⟩,
      ⟨(some 3), none, .mv false (.s 23)⟩]) (
  .seq (
    .region [1, 3, 4, 5, 6] [.norm [1]] [
      ⟨(some 25), none, .load none (some 1) false (.s 1)⟩,
      ⟨(some 26), none, .call 45 [(.s 25)] []⟩,
      ⟨(some 24), none, .mv false (.s 26)⟩,
      ⟨(some 27), none, .extract 0 (.s 24)⟩,
      ⟨(some 28), none, .extract 1 (.s 24)⟩,
      ⟨(some 29), none, .extract 2 (.s 24)⟩,
      ⟨(some 4), none, .mv false (.s 27)⟩,
      ⟨(some 5), none, .mv false (.s 28)⟩,
      ⟨(some 6), none, .mv false (.s 29)⟩]) (
  .seq (
    .region [1, 3, 4, 5, 6, 7, 8, 9] [.norm [1]] [
      ⟨(some 31), none, .load none (some 1) false (.s 1)⟩,
      ⟨(some 32), none, .call 48 [(.s 31)] []⟩,
      ⟨(some 30), none, .mv false (.s 32)⟩,
      ⟨(some 33), none, .extract 0 (.s 30)⟩,
      ⟨(some 34), none, .extract 1 (.s 30)⟩,
      ⟨(some 35), none, .extract 2 (.s 30)⟩,
      ⟨(some 7), none, .mv false (.s 33)⟩,
      ⟨(some 8), none, .mv false (.s 34)⟩,
      ⟨(some 9), none, .mv false (.s 35)⟩]) (
  .seq (
    .region [1, 3, 4, 5, 6, 7, 8, 9, 10, 11, 12] [.norm [1]] [
      ⟨(some 37), none, .load none (some 1) false (.s 1)⟩,
      ⟨(some 38), none, .call 52 [(.s 37)] []⟩,
      ⟨(some 36), none, .mv false (.s 38)⟩,
      ⟨(some 39), none, .extract 0 (.s 36)⟩,
      ⟨(some 40), none, .extract 1 (.s 36)⟩,
      ⟨(some 41), none, .extract 2 (.s 36)⟩,
      ⟨(some 10), none, .mv true (.s 39)⟩,
      ⟨(some 11), none, .mv false (.s 40)⟩,
      ⟨(some 12), none, .mv false (.s 41)⟩]) (
  .seq (
    .region [1, 3, 4, 5, 6, 7, 8, 9, 10, 11, 12, 13, 14, 15] [.norm [1]] [
      ⟨(some 43), none, .load none (some 1) false (.s 1)⟩,
      ⟨(some 44), none, .call 55 [(.s 43)] []⟩,
      ⟨(some 42), none, .mv false (.s 44)⟩,
      ⟨(some 45), none, .extract 0 (.s 42)⟩,
      ⟨(some 46), none, .extract 1 (.s 42)⟩,
      ⟨(some 47), none, .extract 2 (.s 42)⟩,
      ⟨(some 13), none, .mv true (.s 45)⟩,
      ⟨(some 14), none, .mv false (.s 46)⟩,
      ⟨(some 15), none, .mv false (.s 47)⟩]) (
  .seq (
    .region [3, 4, 5, 6, 7, 8, 9, 10, 11, 12, 13, 14, 15, 16, 17, 18] [.norm [1]] [
      ⟨(some 49), none, .load none (some 1) false (.s 1)⟩,
      ⟨(some 50), none, .call 58 [(.s 49)] []⟩,
      ⟨(some 48), none, .mv false (.s 50)⟩,
      ⟨(some 51), none, .extract 0 (.s 48)⟩,
      ⟨(some 52), none, .extract 1 (.s 48)⟩,
      ⟨(some 53), none, .extract 2 (.s 48)⟩,
      ⟨(some 16), none, .mv true (.s 51)⟩,
      ⟨(some 17), none, .mv false (.s 52)⟩,
      ⟨(some 18), none, .mv false (.s 53)⟩]) (
  .seq (
    .region [2] [] [
      ⟨(some 54), none, .call 63 [] []⟩,
      ⟨(some 55), none, .mv false (.s 54)⟩,
      ⟨(some 56), (some (55, true)), .mv false (.s 3)⟩,
      ⟨(some 57), (some (55, true)), .mv false (.s 4)⟩,
      ⟨(some 58), (some (55, true)), .call 12 [(.s 57)] []⟩,
      ⟨(some 59), (some (55, true)), .mv false (.s 5)⟩,
      ⟨(some 60), (some (55, true)), .mv false (.s 6)⟩,
      ⟨(some 61), (some (55, true)), .callv 68 (.s 56) [(.s 58), (.s 59), (.s 60)] [1]⟩,
      ⟨(some 62), none, .pick (.s 55) (.s 61) (.c (bo false))⟩,
      ⟨(some 63), none, .mv false (.s 62)⟩,
      ⟨(some 64), (some (63, true)), .mv false (.s 3)⟩,
      ⟨(some 65), (some (63, true)), .mv false (.s 7)⟩,
      ⟨(some 66), (some (63, true)), .call 7 [(.s 65)] []⟩,
      ⟨(some 67), (some (63, true)), .mv false (.s 8)⟩,
      ⟨(some 68), (some (63, true)), .mv false (.s 9)⟩,
      ⟨(some 69), (some (63, true)), .callv 68 (.s 64) [(.s 66), (.s 67), (.s 68)] [1]⟩,
      ⟨(some 70), none, .pick (.s 63) (.s 69) (.c (bo false))⟩,
      ⟨(some 71), none, .mv false (.s 70)⟩,
      ⟨(some 72), (some (71, true)), .mv false (.s 3)⟩,
      ⟨(some 73), (some (71, true)), .mv true (.s 10)⟩,
      ⟨(some 74), (some (71, true)), .call 39 [(.s 73)] []⟩,
      ⟨(some 75), (some (71, true)), .mv false (.s 11)⟩,
      ⟨(some 76), (some (71, true)), .mv false (.s 12)⟩,
      ⟨(some 77), (some (71, true)), .callv 68 (.s 72) [(.s 74), (.s 75), (.s 76)] [1]⟩,
      ⟨(some 78), none, .pick (.s 71) (.s 77) (.c (bo false))⟩,
      ⟨(some 79), none, .mv false (.s 78)⟩,
      ⟨(some 80), (some (79, true)), .mv false (.s 3)⟩,
      ⟨(some 81), (some (79, true)), .mv true (.s 13)⟩,
      ⟨(some 82), (some (79, true)), .call 41 [(.s 81)] []⟩,
      ⟨(some 83), (some (79, true)), .mv false (.s 14)⟩,
      ⟨(some 84), (some (79, true)), .mv false (.s 15)⟩,
      ⟨(some 85), (some (79, true)), .callv 68 (.s 80) [(.s 82), (.s 83), (.s 84)] [1]⟩,
      ⟨(some 86), none, .pick (.s 79) (.s 85) (.c (bo false))⟩,
      ⟨(some 87), none, .mv false (.s 86)⟩,
      ⟨(some 88), (some (87, true)), .mv false (.s 3)⟩,
      ⟨(some 89), (some (87, true)), .mv true (.s 16)⟩,
      ⟨(some 90), (some (87, true)), .call 43 [(.s 89)] []⟩,
      ⟨(some 91), (some (87, true)), .mv false (.s 17)⟩,
      ⟨(some 92), (some (87, true)), .mv false (.s 18)⟩,
      ⟨(some 93), (some (87, true)), .callv 68 (.s 88) [(.s 90), (.s 91), (.s 92)] [1]⟩,
      ⟨(some 94), none, .pick (.s 87) (.s 93) (.c (bo false))⟩,
      ⟨(some 2), none, .mv false (.s 94)⟩]) (
  .ret)))))))
def f_custodylaw01_WireCanonical : AFun :=
 { n := 1, wr := [], res := [.t 2], body :=
    .seq (
      .region [1] [.norm [1]] [
        ⟨(some 1), none, .box 1 none false (.s 0)⟩,
        ⟨(some 2), none, .mv false (.c (bo false))⟩]) (
    .seq (
      .seq (
        .region [1, 21] [.norm [1]] [
          ⟨(some 19), none, .load none (some 1) false (.s 1)⟩,
          ⟨(some 20), none, .len false (.s 19)⟩,
          ⟨(some 21), none, .bin .gtr (.s 20) (.c (i64 2000))⟩]) (
      .cond (.s 21) (
        .seq (
          .region [2] [] [
            ⟨(some 22), none, .call 63 [] []⟩,
            ⟨(some 2), none, .mv false (.s 22)⟩]) (
        .ret)) (
        .ghost (.keep [1]) .skip))) (
    f_custodylaw01_WireCanonical_r0)) }

/-- custody custodylaw01.WireListRoundTrip = 70; calls custodylaw01.few = 62, custodylaw01.sanity = 63, custodyref01.SameDigests = 60, custodyref01.SameInts = 54, custodyref01.SameTexts = 57, wire.Bytes = 7, wire.Digests = 43, wire.GetBytes = 48, wire.GetDigests = 58, wire.GetInts = 52, wire.GetStrings = 55, wire.Ints = 39, wire.Strings = 41 -/
def f_custodylaw01_WireListRoundTrip_r0 : ACode :=
  .seq (
    .region [11, 12, 13, 14] [] [
      ⟨(some 45), none, .mv false (.s 0)⟩,
      ⟨(some 46), none, .call 7 [(.s 45)] []⟩,
      ⟨(some 47), none, .mv false (.s 1)⟩,
      ⟨(some 48), none, .call 39 [(.s 47)] []⟩,
      ⟨(some 49), none, .mv false (.s 3)⟩,
      ⟨(some 50), none, .call 43 [(.s 49)] []⟩,
      ⟨(some 51), none, .mv false (.s 2)⟩,
      ⟨(some 52), none, .call 41 [(.s 51)] []⟩,
      ⟨(some 11), none, .mv true (.s 46)⟩,
      ⟨(some 12), none, .mv true (.s 48)⟩,
      ⟨(some 13), none, .mv true (.s 50)⟩,
      ⟨(some 14), none, .mv true (.s 52)⟩]) (
  .seq (
    .region [11, 12, 13, 14, 15, 16, 17] [] [
      ⟨(some 54), none, .mv false (.s 11)⟩,
      ⟨(some 55), none, .mv false (.s 11)⟩,
      ⟨(some 56), none, .len false (.s 55)⟩,
      ⟨(some 57), none, .mv false (.s 11)⟩,
      ⟨(some 58), none, .len false (.s 57)⟩,
      ⟨(some 59), none, .slSl 1 (.s 54) none (some (.s 56)) (some (.s 58))⟩,
      ⟨(some 60), none, .mv false (.s 4)⟩,
      ⟨(some 61), none, .appendC 1 1 false none none (.s 59) (.s 60)⟩,
      ⟨(some 62), none, .call 48 [(.s 61)] []⟩,
      ⟨(some 53), none, .mv false (.s 62)⟩,
      ⟨(some 63), none, .extract 0 (.s 53)⟩,
      ⟨(some 64), none, .extract 1 (.s 53)⟩,
      ⟨(some 65), none, .extract 2 (.s 53)⟩,
      ⟨(some 15), none, .mv false (.s 63)⟩,
      ⟨(some 16), none, .mv false (.s 64)⟩,
      ⟨(some 17), none, .mv false (.s 65)⟩]) (
  .seq (
    .region [11, 12, 13, 14, 15, 16, 17, 18, 19, 20] [] [
      ⟨(some 67), none, .mv false (.s 12)⟩,
      ⟨(some 68), none, .mv false (.s 12)⟩,
      ⟨(some 69), none, .len false (.s 68)⟩,
      ⟨(some 70), none, .mv false (.s 12)⟩,
      ⟨(some 71), none, .len false (.s 70)⟩,
      ⟨(some 72), none, .slSl 1 (.s 67) none (some (.s 69)) (some (.s 71))⟩,
      ⟨(some 73), none, .mv false (.s 4)⟩,
      ⟨(some 74), none, .appendC 1 1 false none none (.s 72) (.s 73)⟩,
      ⟨(some 75), none, .call 52 [(.s 74)] []⟩,
      ⟨(some 66), none, .mv false (.s 75)⟩,
      ⟨(some 76), none, .extract 0 (.s 66)⟩,
      ⟨(some 77), none, .extract 1 (.s 66)⟩,
      ⟨(some 78), none, .extract 2 (.s 66)⟩,
      ⟨(some 18), none, .mv true (.s 76)⟩,
      ⟨(some 19), none, .mv false (.s 77)⟩,
      ⟨(some 20), none, .mv false (.s 78)⟩]) (
  .seq (
    .region [11, 12, 13, 14, 15, 16, 17, 18, 19, 20, 21, 22, 23] [] [
      ⟨(some 80), none, .mv false (.s 13)⟩,
      ⟨(some 81), none, .mv false (.s 13)⟩,
      ⟨(some 82), none, .len false (.s 81)⟩,
      ⟨(some 83), none, .mv false (.s 13)⟩,
      ⟨(some 84), none, .len false (.s 83)⟩,
      ⟨(some 85), none, .slSl 1 (.s 80) none (some (.s 82)) (some (.s 84))⟩,
      ⟨(some 86), none, .mv false (.s 4)⟩,
      ⟨(some 87), none, .appendC 1 1 false none none (.s 85) (.s 86)⟩,
      ⟨(some 88), none, .call 58 [(.s 87)] []⟩,
      ⟨(some 79), none, .mv false (.s 88)⟩,
      ⟨(some 89), none, .extract 0 (.s 79)⟩,
      ⟨(some 90), none, .extract 1 (.s 79)⟩,
      ⟨(some 91), none, .extract 2 (.s 79)⟩,
      ⟨(some 21), none, .mv true (.s 89)⟩,
      ⟨(some 22), none, .mv false (.s 90)⟩,
      ⟨(some 23), none, .mv false (.s 91)⟩]) (
  .seq (
    .region [11, 12, 13, 14, 15, 16, 17, 18, 19, 20, 21, 22, 23, 24, 25, 26] [] [
      ⟨(some 93), none, .mv false (.s 14)⟩,
      ⟨(some 94), none, .mv false (.s 14)⟩,
      ⟨(some 95), none, .len false (.s 94)⟩,
      ⟨(some 96), none, .mv false (.s 14)⟩,
      ⟨(some 97), none, .len false (.s 96)⟩,
      ⟨(some 98), none, .slSl 1 (.s 93) none (some (.s 95)) (some (.s 97))⟩,
      ⟨(some 99), none, .mv false (.s 4)⟩,
      ⟨(some 100), none, .appendC 1 1 false none none (.s 98) (.s 99)⟩,
      ⟨(some 101), none, .call 55 [(.s 100)] []⟩,
      ⟨(some 92), none, .mv false (.s 101)⟩,
      ⟨(some 102), none, .extract 0 (.s 92)⟩,
      ⟨(some 103), none, .extract 1 (.s 92)⟩,
      ⟨(some 104), none, .extract 2 (.s 92)⟩,
      ⟨(some 24), none, .mv true (.s 102)⟩,
      ⟨(some 25), none, .mv false (.s 103)⟩,
      ⟨(some 26), none, .mv false (.s 104)⟩]) (
  .seq (
    .region [10] [] [
      ⟨(some 105), none, .call 63 [] []⟩,
      ⟨(some 106), none, .mv false (.s 105)⟩,
      ⟨(some 107), (some (106, true)), .mv true (.s 24)⟩,
      ⟨(some 108), (some (106, true)), .mv false (.s 2)⟩,
      ⟨(some 109), (some (106, true)), .call 57 [(.s 107), (.s 108)] []⟩,
      ⟨(some 110), none, .pick (.s 106) (.s 109) (.c (bo false))⟩,
      ⟨(some 111), none, .mv false (.s 110)⟩,
      ⟨(some 112), (some (111, true)), .mv false (.s 25)⟩,
      ⟨(some 113), (some (111, true)), .mv true (.s 14)⟩,
      ⟨(some 114), (some (111, true)), .len false (.s 113)⟩,
      ⟨(some 115), (some (111, true)), .bin .eql (.s 112) (.s 114)⟩,
      ⟨(some 116), none, .pick (.s 111) (.s 115) (.c (bo false))⟩,
      ⟨(some 117), none, .mv false (.s 116)⟩,
      ⟨(some 118), (some (117, true)), .mv false (.s 26)⟩,
      ⟨(some 119), (some (117, true)), .bin .eql (.s 118) (.c (i64 0))⟩,
      ⟨(some 120), none, .pick (.s 117) (.s 119) (.c (bo false))⟩,
      ⟨(some 121), none, .mv false (.s 120)⟩,
      ⟨(some 122), (some (121, true)), .mv false (.s 15)⟩,
      ⟨(some 123), (some (121, true)), .mv false (.s 0)⟩,
      ⟨(some 124), (some (121, true)), .bin .eql (.s 122) (.s 123)⟩,
      ⟨(some 125), none, .pick (.s 121) (.s 124) (.c (bo false))⟩,
      ⟨(some 126), none, .mv false (.s 125)⟩,
      ⟨(some 127), (some (126, true)), .mv false (.s 16)⟩,
      ⟨(some 128), (some (126, true)), .mv true (.s 11)⟩,
      ⟨(some 129), (some (126, true)), .len false (.s 128)⟩,
      ⟨(some 130), (some (126, true)), .bin .eql (.s 127) (.s 129)⟩,
      ⟨(some 131), none, .pick (.s 126) (.s 130) (.c (bo false))⟩,
      ⟨(some 132), none, .mv false (.s 131)⟩,
      ⟨(some 133), (some (132, true)), .mv false (.s 17)⟩,
      ⟨(some 134), (some (132, true)), .bin .eql (.s 133) (.c (i64 0))⟩,
      ⟨(some 135), none, .pick (.s 132) (.s 134) (.c (bo false))⟩,
      ⟨(some 136), none, .mv false (.s 135)⟩,
      ⟨(some 137), (some (136, true)), .mv true (.s 18)⟩,
      ⟨(some 138), (some (136, true)), .mv false (.s 1)⟩,
      ⟨(some 139), (some (136, true)), .call 54 [(.s 137), (.s 138)] []⟩,
      ⟨(some 140), none, .pick (.s 136) (.s 139) (.c (bo false))⟩,
      ⟨(some 141), none, .mv false (.s 140)⟩,
      ⟨(some 142), (some (141, true)), .mv false (.s 19)⟩,
      ⟨(some 143), (some (141, true)), .mv true (.s 12)⟩,
      ⟨(some 144), (some (141, true)), .len false (.s 143)⟩,
      ⟨(some 145), (some (141, true)), .bin .eql (.s 142) (.s 144)⟩,
      ⟨(some 146), none, .pick (.s 141) (.s 145) (.c (bo false))⟩,
      ⟨(some 147), none, .mv false (.s 146)⟩,
      ⟨(some 148), (some (147, true)), .mv false (.s 20)⟩,
      ⟨(some 149), (some (147, true)), .bin .eql (.s 148) (.c (i64 0))⟩,
      ⟨(some 150), none, .pick (.s 147) (.s 149) (.c (bo false))⟩,
      ⟨(some 151), none, .mv false (.s 150)⟩,
      ⟨(some 152), (some (151, true)), .mv true (.s 21)⟩,
      ⟨(some 153), (some (151, true)), .mv false (.s 3)⟩,
      ⟨(some 154), (some (151, true)), .call 60 [(.s 152), (.s 153)] []⟩,
      ⟨(some 155), none, .pick (.s 151) (.s 154) (.c (bo false))⟩,
      ⟨(some 156), none, .mv false (.s 155)⟩,
      ⟨(some 157), (some (156, true)), .mv false (.s 22)⟩,
      ⟨(some 158), (some (156, true)), .mv true (.s 13)⟩,
      ⟨(some 159), (some (156, true)), .len false (.s 158)⟩,
      ⟨(some 160), (some (156, true)), .bin .eql (.s 157) (.s 159)⟩,
      ⟨(some 161), none, .pick (.s 156) (.s 160) (.c (bo false))⟩,
      ⟨(some 162), none, .mv false (.s 161)⟩,
      ⟨(some 163), (some (162, true)), .mv false (.s 23)⟩,
      ⟨(some 164), (some (162, true)), .bin .eql (.s 163) (.c (i64 0))⟩,
      ⟨(some 165), none, .pick (.s 162) (.s 164) (.c (bo false))⟩,
      ⟨(some 10), none, .mv false (.s 165)⟩]) (
  .ret))))))
def f_custodylaw01_WireListRoundTrip : AFun :=
 { n := 5, wr := [], res := [.t 10], body :=
    .seq (
      .region [] [] [
        ⟨(some 10), none, .mv false (.c (bo false))⟩]) (
    .seq (
      .seq (
        .region [43] [] [
          ⟨(some 27), none, .mv false (.s 0)⟩,
          ⟨(some 28), none, .len true (.s 27)⟩,
          ⟨(some 29), none, .mv false (.s 1)⟩,
          ⟨(some 30), none, .len false (.s 29)⟩,
          ⟨(some 31), none, .bin .add (.s 28) (.s 30)⟩,
          ⟨(some 32), none, .mv false (.s 3)⟩,
          ⟨(some 33), none, .len false (.s 32)⟩,
          ⟨(some 34), none, .bin .add (.s 31) (.s 33)⟩,
          ⟨(some 35), none, .mv false (.s 4)⟩,
          ⟨(some 36), none, .len false (.s 35)⟩,
          ⟨(some 37), none, .bin .add (.s 34) (.s 36)⟩,
          ⟨(some 38), none, .bin .gtr (.s 37) (.c (i64 2000))⟩,
          ⟨(some 39), none, .mv false (.s 38)⟩,
          ⟨(some 40), (some (39, false)), .mv false (.s 2)⟩,
          ⟨(some 41), (some (39, false)), .call 62 [(.s 40)] []⟩,
          ⟨(some 42), (some (39, false)), .un .not (.s 41)⟩,
          ⟨(some 43), none, .pick (.s 39) (.c (bo true)) (.s 42)⟩]) (
      .cond (.s 43) (
        .seq (
          .region [10] [] [
            ⟨(some 44), none, .call 63 [] []⟩,
            ⟨(some 10), none, .mv false (.s 44)⟩]) (
        .ret)) (
        .ghost (.keep []) .skip))) (
    f_custodylaw01_WireListRoundTrip_r0)) }

/-- custody custodylaw01.WireTruncated = 71; calls custodylaw01.few = 62, custodylaw01.sanity = 63, wire.Bytes = 7, wire.Digests = 43, wire.GetBytes = 48, wire.GetDigests = 58, wire.GetInt = 45, wire.GetInts = 52, wire.GetStrings = 55, wire.Int = 12, wire.Ints = 39, wire.Strings = 41 -/
def f_custodylaw01_WireTruncated_r3 : ACode :=
  .seq (
    .region [11, 12, 47, 48, 49, 56, 57, 110] [] [
      ⟨(some 109), none, .mv false (.s 14)⟩,
      ⟨(some 110), none, .bin .neq (.s 109) (.c (i64 5))⟩]) (
  .cond (.s 110) (
    .seq (
      .region [10] [] [
        ⟨(some 10), none, .mv false (.c (bo false))⟩]) (
    .ret)) (
    .ghost (.keep [11, 12, 47, 48, 49, 56, 57]) .skip))
def f_custodylaw01_WireTruncated_r2 : ACode :=
  .seq (
    .block 3 (
      .seq (
        .region [11, 12, 13, 47, 48, 49, 56, 57] [] [
          ⟨(some 59), none, .mv false (.s 57)⟩,
          ⟨(some 13), none, .mv false (.s 59)⟩]) (
      .seq (
        .region [11, 12, 13, 47, 48, 49, 56, 57] [] [
          ⟨(some 14), none, .mv false (.c (i64 0))⟩]) (
      .seq (
        .seq (
          .region [11, 12, 13, 47, 48, 49, 56, 57, 60] [] [
            ⟨(some 60), none, .mv false (.s 11)⟩]) (
        .block 4 (
          .seq (
            .region [11, 12, 13, 47, 48, 49, 56, 57, 60, 69] [] [
              ⟨(some 70), none, .bin .eql (.s 60) (.c (i64 0))⟩,
              ⟨(some 69), none, .mv false (.s 70)⟩]) (
          .cond (.s 69) (
            .region [11, 12, 14, 47, 48, 49, 56, 57] [] [
              ⟨(some 72), none, .mv false (.s 12)⟩,
              ⟨(some 73), none, .mv false (.s 13)⟩,
              ⟨(some 74), none, .slSl 1 (.s 72) none (some (.s 73)) none⟩,
              ⟨(some 75), none, .call 45 [(.s 74)] []⟩,
              ⟨(some 71), none, .mv false (.s 75)⟩,
              ⟨(some 76), none, .extract 0 (.s 71)⟩,
              ⟨(some 77), none, .extract 1 (.s 71)⟩,
              ⟨(some 78), none, .extract 2 (.s 71)⟩,
              ⟨(some 14), none, .mv false (.s 78)⟩]) (
            .seq (
              .region [11, 12, 13, 47, 48, 49, 56, 57, 60, 79] [] [
                ⟨(some 80), none, .bin .eql (.s 60) (.c (i64 1))⟩,
                ⟨(some 79), none, .mv false (.s 80)⟩]) (
            .cond (.s 79) (
              .region [11, 12, 14, 47, 48, 49, 56, 57] [] [
                ⟨(some 82), none, .mv false (.s 12)⟩,
                ⟨(some 83), none, .mv false (.s 13)⟩,
                ⟨(some 84), none, .slSl 1 (.s 82) none (some (.s 83)) none⟩,
                ⟨(some 85), none, .call 48 [(.s 84)] []⟩,
                ⟨(some 81), none, .mv false (.s 85)⟩,
                ⟨(some 86), none, .extract 0 (.s 81)⟩,
                ⟨(some 87), none, .extract 1 (.s 81)⟩,
                ⟨(some 88), none, .extract 2 (.s 81)⟩,
                ⟨(some 14), none, .mv false (.s 88)⟩]) (
              .seq (
                .region [11, 12, 13, 47, 48, 49, 56, 57, 60, 89] [] [
                  ⟨(some 90), none, .bin .eql (.s 60) (.c (i64 2))⟩,
                  ⟨(some 89), none, .mv false (.s 90)⟩]) (
              .cond (.s 89) (
                .region [11, 12, 14, 47, 48, 49, 56, 57] [] [
                  ⟨(some 92), none, .mv false (.s 12)⟩,
                  ⟨(some 93), none, .mv false (.s 13)⟩,
                  ⟨(some 94), none, .slSl 1 (.s 92) none (some (.s 93)) none⟩,
                  ⟨(some 95), none, .call 52 [(.s 94)] []⟩,
                  ⟨(some 91), none, .mv false (.s 95)⟩,
                  ⟨(some 96), none, .extract 0 (.s 91)⟩,
                  ⟨(some 97), none, .extract 1 (.s 91)⟩,
                  ⟨(some 98), none, .extract 2 (.s 91)⟩,
                  ⟨(some 14), none, .mv false (.s 98)⟩]) (
                .seq (
                  .region [11, 12, 13, 47, 48, 49, 56, 57, 99] [] [
                    ⟨(some 100), none, .bin .eql (.s 60) (.c (i64 3))⟩,
                    ⟨(some 99), none, .mv false (.s 100)⟩]) (
                .cond (.s 99) (
                  .region [11, 12, 14, 47, 48, 49, 56, 57] [] [
                    ⟨(some 102), none, .mv false (.s 12)⟩,
                    ⟨(some 103), none, .mv false (.s 13)⟩,
                    ⟨(some 104), none, .slSl 1 (.s 102) none (some (.s 103)) none⟩,
                    ⟨(some 105), none, .call 55 [(.s 104)] []⟩,
                    ⟨(some 101), none, .mv false (.s 105)⟩,
                    ⟨(some 106), none, .extract 0 (.s 101)⟩,
                    ⟨(some 107), none, .extract 1 (.s 101)⟩,
                    ⟨(some 108), none, .extract 2 (.s 101)⟩,
                    ⟨(some 14), none, .mv false (.s 108)⟩]) (
                  .region [11, 12, 14, 47, 48, 49, 56, 57] [] [
                    ⟨(some 62), none, .mv false (.s 12)⟩,
                    ⟨(some 63), none, .mv false (.s 13)⟩,
                    ⟨(some 64), none, .slSl 1 (.s 62) none (some (.s 63)) none⟩,
                    ⟨(some 65), none, .call 58 [(.s 64)] []⟩,
                    ⟨(some 61), none, .mv false (.s 65)⟩,
                    ⟨(some 66), none, .extract 0 (.s 61)⟩,
                    ⟨(some 67), none, .extract 1 (.s 61)⟩,
                    ⟨(some 68), none, .extract 2 (.s 61)⟩,
                    ⟨(some 14), none, .mv false (.s 68)⟩]))))))))))) (
      f_custodylaw01_WireTruncated_r3))))) (
  .region [11, 12, 47, 48, 49, 56, 57] [] [
    ⟨(some 111), none, .bin .add (.s 57) (.c (i64 1))⟩,
    ⟨(some 57), none, .mv false (.s 111)⟩])
def f_custodylaw01_WireTruncated_l1 : ACode :=
  .seq (
    .region [11, 12, 47, 48, 49, 56, 57, 58] [] [
      ⟨(some 58), none, .bin .lss (.s 57) (.s 56)⟩]) (
  .seq (
    .cond (.s 58) (
      .ghost (.keep [11, 12, 47, 48, 49, 56, 57]) .skip) (
      .ghost (.keep [47, 48, 49]) (.exit 2))) (
  f_custodylaw01_WireTruncated_r2))
def f_custodylaw01_WireTruncated_r1 : ACode :=
  .seq (
    .block 1 (
      .seq (
        .region [11, 12, 47, 48, 49] [] [
          ⟨(some 51), none, .mv false (.s 49)⟩,
          ⟨(some 52), none, .idxSl 1 (.s 47) (.s 49)⟩,
          ⟨(some 53), none, .load none none false (.s 52)⟩,
          ⟨(some 11), none, .mv false (.s 51)⟩,
          ⟨(some 12), none, .mv true (.s 53)⟩]) (
      .seq (
        .region [11, 12, 47, 48, 49, 56, 57] [] [
          ⟨(some 54), none, .mv false (.s 12)⟩,
          ⟨(some 55), none, .len false (.s 54)⟩,
          ⟨(some 56), none, .min2 (.s 55) (.c (i64 500))⟩,
          ⟨(some 57), none, .mv false (.c (i64 0))⟩]) (
      .block 2 (
        .loop f_custodylaw01_WireTruncated_l1))))) (
  .region [47, 48, 49] [] [
    ⟨(some 112), none, .bin .add (.s 49) (.c (i64 1))⟩,
    ⟨(some 49), none, .mv false (.s 112)⟩])
def f_custodylaw01_WireTruncated_l0 : ACode :=
  .seq (
    .region [47, 48, 49, 50] [] [
      ⟨(some 50), none, .bin .lss (.s 49) (.s 48)⟩]) (
  .seq (
    .cond (.s 50) (
      .ghost (.keep [47, 48, 49]) .skip) (
      .ghost (.keep []) (.exit 0))) (
  f_custodylaw01_WireTruncated_r1))
def f_custodylaw01_WireTruncated_r4 : ACode :=
  .seq (
    .region [10] [] [
      ⟨(some 113), none, .call 63 [] []⟩,
      ⟨(some 10), none, .mv false (.s 113)⟩]) (
  .ret)
def f_custodylaw01_WireTruncated_r0 : ACode :=
  .seq (
    .seq (
      .region [47, 48, 49] [] [
        ⟨(some 37), none, .mv false (.s 0)⟩,
        ⟨(some 38), none, .call 12 [(.s 37)] []⟩,
        ⟨(some 39), none, .mv false (.s 1)⟩,
        ⟨(some 40), none, .call 7 [(.s 39)] []⟩,
        ⟨(some 41), none, .mv false (.s 2)⟩,
        ⟨(some 42), none, .call 39 [(.s 41)] []⟩,
        ⟨(some 43), none, .mv false (.s 3)⟩,
        ⟨(some 44), none, .call 41 [(.s 43)] []⟩,
        ⟨(some 45), none, .mv false (.s 4)⟩,
        ⟨(some 46), none, .call 43 [(.s 45)] []⟩,
        ⟨(some 47), none, .buildSl 1 5 [.sl (.own 1) none 0 [], .sl (.own 1) none 0 [], .sl (.own 1) none 0 [], .sl (.own 1) none 0 [], .sl (.own 1) none 0 []] [(0, 1, (.s 38)), (1, 1, (.s 40)), (2, 1, (.s 42)), (3, 1, (.s 44)), (4, 1, (.s 46))]⟩,
        ⟨(some 48), none, .len false (.s 47)⟩,
        ⟨(some 49), none, .mv false (.c (i64 0))⟩]) (
    .block 0 (
      .loop f_custodylaw01_WireTruncated_l0))) (
  f_custodylaw01_WireTruncated_r4)
def f_custodylaw01_WireTruncated : AFun :=
 { n := 5, wr := [], res := [.t 10], body :=
    .seq (
      .region [] [] [
        ⟨(some 10), none, .mv false (.c (bo false))⟩]) (
    .seq (
      .seq (
        .region [35] [] [
          ⟨(some 15), none, .mv false (.s 1)⟩,
          ⟨(some 16), none, .len true (.s 15)⟩,
          ⟨(some 17), none, .mv false (.s 2)⟩,
          ⟨(some 18), none, .len false (.s 17)⟩,
          ⟨(some 19), none, .bin .mul (.c (i64 9)) (.s 18)⟩,
          ⟨(some 20), none, .bin .add (.s 16) (.s 19)⟩,
          ⟨(some 21), none, .mv false (.s 4)⟩,
          ⟨(some 22), none, .len false (.s 21)⟩,
          ⟨(some 23), none, .bin .mul (.c (i64 16)) (.s 22)⟩,
          ⟨(some 24), none, .bin .add (.s 20) (.s 23)⟩,
          ⟨(some 25), none, .bin .gtr (.s 24) (.c (i64 400))⟩,
          ⟨(some 26), none, .mv false (.s 25)⟩,
          ⟨(some 27), (some (26, false)), .mv false (.s 3)⟩,
          ⟨(some 28), (some (26, false)), .len false (.s 27)⟩,
          ⟨(some 29), (some (26, false)), .bin .gtr (.s 28) (.c (i64 40))⟩,
          ⟨(some 30), none, .pick (.s 26) (.c (bo true)) (.s 29)⟩,
          ⟨(some 31), none, .mv false (.s 30)⟩,
          ⟨(some 32), (some (31, false)), .mv false (.s 3)⟩,
          ⟨(some 33), (some (31, false)), .call 62 [(.s 32)] []⟩,
          ⟨(some 34), (some (31, false)), .un .not (.s 33)⟩,
          ⟨(some 35), none, .pick (.s 31) (.c (bo true)) (.s 34)⟩]) (
      .cond (.s 35) (
        .seq (
          .region [10] [] [
            ⟨(some 36), none, .call 63 [] []⟩,
            ⟨(some 10), none, .mv false (.s 36)⟩]) (
        .ret)) (
        .ghost (.keep []) .skip))) (
    f_custodylaw01_WireTruncated_r0)) }

/-- custody custodylaw01.WireConcat = 72; calls custodylaw01.sanity = 63, custodyref01.SameInts = 54, wire.Bytes = 7, wire.GetBytes = 48, wire.GetInts = 52, wire.Ints = 39 -/
def f_custodylaw01_WireConcat_r1 : ACode :=
  .seq (
    .region [5, 6, 7, 9, 10, 11] [] [
      ⟨(some 43), none, .mv false (.s 5)⟩,
      ⟨(some 44), none, .mv false (.s 7)⟩,
      ⟨(some 45), none, .slSl 1 (.s 43) (some (.s 44)) none none⟩,
      ⟨(some 46), none, .call 52 [(.s 45)] []⟩,
      ⟨(some 42), none, .mv false (.s 46)⟩,
      ⟨(some 47), none, .extract 0 (.s 42)⟩,
      ⟨(some 48), none, .extract 1 (.s 42)⟩,
      ⟨(some 49), none, .extract 2 (.s 42)⟩,
      ⟨(some 9), none, .mv true (.s 47)⟩,
      ⟨(some 10), none, .mv false (.s 48)⟩,
      ⟨(some 11), none, .mv false (.s 49)⟩]) (
  .seq (
    .region [4] [] [
      ⟨(some 50), none, .call 63 [] []⟩,
      ⟨(some 51), none, .mv false (.s 50)⟩,
      ⟨(some 52), (some (51, true)), .mv false (.s 6)⟩,
      ⟨(some 53), (some (51, true)), .mv false (.s 0)⟩,
      ⟨(some 54), (some (51, true)), .bin .eql (.s 52) (.s 53)⟩,
      ⟨(some 55), none, .pick (.s 51) (.s 54) (.c (bo false))⟩,
      ⟨(some 56), none, .mv false (.s 55)⟩,
      ⟨(some 57), (some (56, true)), .mv true (.s 9)⟩,
      ⟨(some 58), (some (56, true)), .mv false (.s 1)⟩,
      ⟨(some 59), (some (56, true)), .call 54 [(.s 57), (.s 58)] []⟩,
      ⟨(some 60), none, .pick (.s 56) (.s 59) (.c (bo false))⟩,
      ⟨(some 61), none, .mv false (.s 60)⟩,
      ⟨(some 62), (some (61, true)), .mv false (.s 11)⟩,
      ⟨(some 63), (some (61, true)), .bin .eql (.s 62) (.c (i64 0))⟩,
      ⟨(some 64), none, .pick (.s 61) (.s 63) (.c (bo false))⟩,
      ⟨(some 65), none, .mv false (.s 64)⟩,
      ⟨(some 66), (some (65, true)), .mv false (.s 7)⟩,
      ⟨(some 67), (some (65, true)), .mv false (.s 10)⟩,
      ⟨(some 68), (some (65, true)), .bin .add (.s 66) (.s 67)⟩,
      ⟨(some 69), (some (65, true)), .mv true (.s 5)⟩,
      ⟨(some 70), (some (65, true)), .len false (.s 69)⟩,
      ⟨(some 71), (some (65, true)), .bin .eql (.s 68) (.s 70)⟩,
      ⟨(some 72), none, .pick (.s 65) (.s 71) (.c (bo false))⟩,
      ⟨(some 4), none, .mv false (.s 72)⟩]) (
  .ret))
def f_custodylaw01_WireConcat_r0 : ACode :=
  .seq (
    .region [5] [] [
      ⟨(some 19), none, .mv false (.s 0)⟩,
      ⟨(some 20), none, .call 7 [(.s 19)] []⟩,
      ⟨(some 21), none, .mv false (.s 1)⟩,
      ⟨(some 22), none, .call 39 [(.s 21)] []⟩,
      ⟨(some 23), none, .append 1 1 false (some false) none 20 (.s 22)⟩,
      ⟨(some 5), none, .mv true (.s 23)⟩]) (
  .seq (
    .region [5, 6, 7, 8] [] [
      ⟨(some 25), none, .mv false (.s 5)⟩,
      ⟨(some 26), none, .call 48 [(.s 25)] []⟩,
      ⟨(some 24), none, .mv false (.s 26)⟩,
      ⟨(some 27), none, .extract 0 (.s 24)⟩,
      ⟨(some 28), none, .extract 1 (.s 24)⟩,
      ⟨(some 29), none, .extract 2 (.s 24)⟩,
      ⟨(some 6), none, .mv false (.s 27)⟩,
      ⟨(some 7), none, .mv false (.s 28)⟩,
      ⟨(some 8), none, .mv false (.s 29)⟩]) (
  .seq (
    .seq (
      .region [5, 6, 7, 41] [] [
        ⟨(some 30), none, .mv false (.s 8)⟩,
        ⟨(some 31), none, .bin .neq (.s 30) (.c (i64 0))⟩,
        ⟨(some 32), none, .mv false (.s 31)⟩,
        ⟨(some 33), (some (32, false)), .mv false (.s 7)⟩,
        ⟨(some 34), (some (32, false)), .bin .lss (.s 33) (.c (i64 0))⟩,
        ⟨(some 35), none, .pick (.s 32) (.c (bo true)) (.s 34)⟩,
        ⟨(some 36), none, .mv false (.s 35)⟩,
        ⟨(some 37), (some (36, false)), .mv false (.s 7)⟩,
        ⟨(some 38), (some (36, false)), .mv false (.s 5)⟩,
        ⟨(some 39), (some (36, false)), .len false (.s 38)⟩,
        ⟨(some 40), (some (36, false)), .bin .gtr (.s 37) (.s 39)⟩,
        ⟨(some 41), none, .pick (.s 36) (.c (bo true)) (.s 40)⟩]) (
    .cond (.s 41) (
      .seq (
        .region [4] [] [
          ⟨(some 4), none, .mv false (.c (bo false))⟩]) (
      .ret)) (
      .ghost (.keep [5, 6, 7]) .skip))) (
  f_custodylaw01_WireConcat_r1)))
def f_custodylaw01_WireConcat : AFun :=
 { n := 2, wr := [], res := [.t 4], body :=
    .seq (
      .region [] [] [
        ⟨(some 4), none, .mv false (.c (bo false))⟩]) (
    .seq (
      .seq (
        .region [17] [] [
          ⟨(some 12), none, .mv false (.s 0)⟩,
          ⟨(some 13), none, .len true (.s 12)⟩,
          ⟨(some 14), none, .mv false (.s 1)⟩,
          ⟨(some 15), none, .len false (.s 14)⟩,
          ⟨(some 16), none, .bin .add (.s 13) (.s 15)⟩,
          ⟨(some 17), none, .bin .gtr (.s 16) (.c (i64 2000))⟩]) (
      .cond (.s 17) (
        .seq (
          .region [4] [] [
            ⟨(some 18), none, .call 63 [] []⟩,
            ⟨(some 4), none, .mv false (.s 18)⟩]) (
        .ret)) (
        .ghost (.keep []) .skip))) (
    f_custodylaw01_WireConcat_r0)) }

/-- custody custodylaw01.few = 62; calls  -/
def f_custodylaw01_few_r0 : ACode :=
  .seq (
    .block 1 (
      .seq (
        .region [3, 5, 8, 9, 10] [] [
          ⟨(some 12), none, .idxSl 1 (.s 8) (.s 10)⟩,
          ⟨(some 13), none, .load none none false (.s 12)⟩,
          ⟨(some 5), none, .mv false (.s 13)⟩]) (
      .region [3, 8, 9, 10] [] [
        ⟨(some 14), none, .mv false (.s 3)⟩,
        ⟨(some 15), none, .mv false (.s 5)⟩,
        ⟨(some 16), none, .len true (.s 15)⟩,
        ⟨(some 17), none, .bin .add (.s 14) (.s 16)⟩,
        ⟨(some 3), none, .mv false (.s 17)⟩]))) (
  .region [3, 8, 9, 10] [] [
    ⟨(some 18), none, .bin .add (.s 10) (.c (i64 1))⟩,
    ⟨(some 10), none, .mv false (.s 18)⟩])
def f_custodylaw01_few_l0 : ACode :=
  .seq (
    .region [3, 8, 9, 10, 11] [] [
      ⟨(some 11), none, .bin .lss (.s 10) (.s 9)⟩]) (
  .seq (
    .cond (.s 11) (
      .ghost (.keep [3, 8, 9, 10]) .skip) (
      .ghost (.keep [3]) (.exit 0))) (
  f_custodylaw01_few_r0))
def f_custodylaw01_few_r1 : ACode :=
  .seq (
    .region [2] [] [
      ⟨(some 19), none, .mv false (.s 3)⟩,
      ⟨(some 20), none, .bin .leq (.s 19) (.c (i64 2000))⟩,
      ⟨(some 2), none, .mv false (.s 20)⟩]) (
  .ret)
def f_custodylaw01_few : AFun :=
 { n := 1, wr := [], res := [.t 2], body :=
    .seq (
      .region [] [] [
        ⟨(some 2), none, .mv false (.c (bo false))⟩]) (
    .seq (
      .region [3] [] [
        ⟨(some 6), none, .mv false (.s 0)⟩,
        ⟨(some 7), none, .len false (.s 6)⟩,
        ⟨(some 3), none, .mv false (.s 7)⟩]) (
    .seq (
      .seq (
        .region [3, 8, 9, 10] [] [
          ⟨(some 8), none, .mv false (.s 0)⟩,
          ⟨(some 9), none, .len false (.s 8)⟩,
          ⟨(some 10), none, .mv false (.c (i64 0))⟩]) (
      .block 0 (
        .loop f_custodylaw01_few_l0))) (
    f_custodylaw01_few_r1))) }

/-- custody custodylaw01.sanity = 63; calls custodyref01.Same = 38, custodyref01.SameDigests = 60, custodyref01.SameInts = 54, custodyref01.SameTexts = 57, wire.Bytes = 7, wire.Digests = 43, wire.GetBytes = 48, wire.GetDigests = 58, wire.GetInt = 45, wire.GetInts = 52, wire.GetStrings = 55, wire.Int = 12, wire.Ints = 39, wire.Strings = 41 -/
def f_custodylaw01_sanity : AFun :=
 { n := 0, wr := [], res := [.t 0], body :=
    .seq (
      .region [] [] [
        ⟨(some 0), none, .mv false (.c (bo false))⟩]) (
    .seq (
      .region [1, 2, 3] [] [
        ⟨(some 25), none, .buildSl 1 4 [u8 0, u8 0, u8 0, u8 0] [(0, 1, (.c (u8 130))), (1, 1, (.c (u8 1))), (2, 1, (.c (u8 0))), (3, 1, (.c (u8 9)))]⟩,
        ⟨(some 26), none, .call 45 [(.s 25)] []⟩,
        ⟨(some 24), none, .mv false (.s 26)⟩,
        ⟨(some 27), none, .extract 0 (.s 24)⟩,
        ⟨(some 28), none, .extract 1 (.s 24)⟩,
        ⟨(some 29), none, .extract 2 (.s 24)⟩,
        ⟨(some 1), none, .mv false (.s 27)⟩,
        ⟨(some 2), none, .mv false (.s 28)⟩,
        ⟨(some 3), none, .mv false (.s 29)⟩]) (
    .seq (
      .region [1, 2, 3, 6] [] [
        ⟨(some 31), none, .buildSl 1 2 [u8 0, u8 0] [(0, 1, (.c (u8 130))), (1, 1, (.c (u8 1)))]⟩,
        ⟨(some 32), none, .call 45 [(.s 31)] []⟩,
        ⟨(some 30), none, .mv false (.s 32)⟩,
        ⟨(some 33), none, .extract 0 (.s 30)⟩,
        ⟨(some 34), none, .extract 1 (.s 30)⟩,
        ⟨(some 35), none, .extract 2 (.s 30)⟩,
        ⟨(some 4), none, .mv false (.s 33)⟩,
        ⟨(some 5), none, .mv false (.s 34)⟩,
        ⟨(some 6), none, .mv false (.s 35)⟩]) (
    .seq (
      .region [1, 2, 3, 6, 9] [] [
        ⟨(some 37), none, .buildSl 1 2 [u8 0, u8 0] [(0, 1, (.c (u8 129))), (1, 1, (.c (u8 0)))]⟩,
        ⟨(some 38), none, .call 45 [(.s 37)] []⟩,
        ⟨(some 36), none, .mv false (.s 38)⟩,
        ⟨(some 39), none, .extract 0 (.s 36)⟩,
        ⟨(some 40), none, .extract 1 (.s 36)⟩,
        ⟨(some 41), none, .extract 2 (.s 36)⟩,
        ⟨(some 7), none, .mv false (.s 39)⟩,
        ⟨(some 8), none, .mv false (.s 40)⟩,
        ⟨(some 9), none, .mv false (.s 41)⟩]) (
    .seq (
      .region [1, 2, 3, 6, 9, 10, 11, 12] [] [
        ⟨(some 43), none, .buildSl 1 5 [u8 0, u8 0, u8 0, u8 0, u8 0] [(0, 1, (.c (u8 129))), (1, 1, (.c (u8 2))), (2, 1, (.c (u8 97))), (3, 1, (.c (u8 98))), (4, 1, (.c (u8 7)))]⟩,
        ⟨(some 44), none, .call 48 [(.s 43)] []⟩,
        ⟨(some 42), none, .mv false (.s 44)⟩,
        ⟨(some 45), none, .extract 0 (.s 42)⟩,
        ⟨(some 46), none, .extract 1 (.s 42)⟩,
        ⟨(some 47), none, .extract 2 (.s 42)⟩,
        ⟨(some 10), none, .mv false (.s 45)⟩,
        ⟨(some 11), none, .mv false (.s 46)⟩,
        ⟨(some 12), none, .mv false (.s 47)⟩]) (
    .seq (
      .region [1, 2, 3, 6, 9, 10, 11, 12, 13, 14, 15] [] [
        ⟨(some 49), none, .buildSl 1 5 [u8 0, u8 0, u8 0, u8 0, u8 0] [(0, 1, (.c (u8 129))), (1, 1, (.c (u8 2))), (2, 1, (.c (u8 129))), (3, 1, (.c (u8 1))), (4, 1, (.c (u8 127)))]⟩,
        ⟨(some 50), none, .call 52 [(.s 49)] []⟩,
        ⟨(some 48), none, .mv false (.s 50)⟩,
        ⟨(some 51), none, .extract 0 (.s 48)⟩,
        ⟨(some 52), none, .extract 1 (.s 48)⟩,
        ⟨(some 53), none, .extract 2 (.s 48)⟩,
        ⟨(some 13), none, .mv true (.s 51)⟩,
        ⟨(some 14), none, .mv false (.s 52)⟩,
        ⟨(some 15), none, .mv false (.s 53)⟩]) (
    .seq (
      .region [1, 2, 3, 6, 9, 10, 11, 12, 13, 14, 15, 16] [.norm [16]] [
        ⟨(some 54), none, .build (bys (zeros 16)) [(0, 1, (.c (u8 1))), (1, 1, (.c (u8 2)))]⟩,
        ⟨(some 16), none, .alloc 16 (bys (zeros 16))⟩,
        ⟨none, none, .store (some 16) 16 false (.s 16) (.s 54)⟩]) (
    .seq (
      .region [1, 2, 3, 6, 9, 10, 11, 12, 13, 14, 15, 16, 17, 18, 19] [.norm [16]] [
        ⟨(some 56), none, .load (some 16) (some 16) false (.s 16)⟩,
        ⟨(some 57), none, .buildSl 16 1 (bys (zeros 16)) [(0, 16, (.s 56))]⟩,
        ⟨(some 58), none, .call 43 [(.s 57)] []⟩,
        ⟨(some 59), none, .call 58 [(.s 58)] []⟩,
        ⟨(some 55), none, .mv false (.s 59)⟩,
        ⟨(some 60), none, .extract 0 (.s 55)⟩,
        ⟨(some 61), none, .extract 1 (.s 55)⟩,
        ⟨(some 62), none, .extract 2 (.s 55)⟩,
        ⟨(some 17), none, .mv true (.s 60)⟩,
        ⟨(some 18), none, .mv false (.s 61)⟩,
        ⟨(some 19), none, .mv false (.s 62)⟩]) (
    .seq (
      .region [1, 2, 3, 6, 9, 10, 11, 12, 13, 14, 15, 16, 17, 18, 19, 20, 21, 22] [] [
        ⟨(some 64), none, .buildSl 1 7 [u8 0, u8 0, u8 0, u8 0, u8 0, u8 0, u8 0] [(0, 1, (.c (u8 129))), (1, 1, (.c (u8 2))), (2, 1, (.c (u8 128))), (3, 1, (.c (u8 129))), (4, 1, (.c (u8 1))), (5, 1, (.c (u8 97))), (6, 1, (.c (u8 5)))]⟩,
        ⟨(some 65), none, .call 55 [(.s 64)] []⟩,
        ⟨(some 63), none, .mv false (.s 65)⟩,
        ⟨(some 66), none, .extract 0 (.s 63)⟩,
        ⟨(some 67), none, .extract 1 (.s 63)⟩,
        ⟨(some 68), none, .extract 2 (.s 63)⟩,
        ⟨(some 20), none, .mv true (.s 66)⟩,
        ⟨(some 21), none, .mv false (.s 67)⟩,
        ⟨(some 22), none, .mv false (.s 68)⟩]) (
    .seq (
      .region [1, 2, 3, 6, 9, 10, 11, 12, 13, 14, 15, 16, 17, 18, 19, 23] [] [
        ⟨(some 69), none, .mv true (.s 20)⟩,
        ⟨(some 70), none, .buildSl 1 2 [st [], st []] [(0, 1, (.c (st []))), (1, 1, (.c (st [97])))]⟩,
        ⟨(some 71), none, .call 57 [(.s 69), (.s 70)] []⟩,
        ⟨(some 72), none, .mv false (.s 71)⟩,
        ⟨(some 73), (some (72, true)), .mv false (.s 21)⟩,
        ⟨(some 74), (some (72, true)), .bin .eql (.s 73) (.c (i64 6))⟩,
        ⟨(some 75), none, .pick (.s 72) (.s 74) (.c (bo false))⟩,
        ⟨(some 76), none, .mv false (.s 75)⟩,
        ⟨(some 77), (some (76, true)), .mv false (.s 22)⟩,
        ⟨(some 78), (some (76, true)), .bin .eql (.s 77) (.c (i64 0))⟩,
        ⟨(some 79), none, .pick (.s 76) (.s 78) (.c (bo false))⟩,
        ⟨(some 80), none, .mv false (.s 79)⟩,
        ⟨(some 81), (some (80, true)), .buildSl 1 2 [st [], st []] [(0, 1, (.c (st []))), (1, 1, (.c (st [97])))]⟩,
        ⟨(some 82), (some (80, true)), .call 41 [(.s 81)] []⟩,
        ⟨(some 83), (some (80, true)), .buildSl 1 6 [u8 0, u8 0, u8 0, u8 0, u8 0, u8 0] [(0, 1, (.c (u8 129))), (1, 1, (.c (u8 2))), (2, 1, (.c (u8 128))), (3, 1, (.c (u8 129))), (4, 1, (.c (u8 1))), (5, 1, (.c (u8 97)))]⟩,
        ⟨(some 84), (some (80, true)), .call 38 [(.s 82), (.s 83)] []⟩,
        ⟨(some 85), none, .pick (.s 80) (.s 84) (.c (bo false))⟩,
        ⟨(some 23), none, .mv false (.s 85)⟩]) (
    .seq (
      .region [0] [.norm [16]] [
        ⟨(some 86), none, .mv false (.s 23)⟩,
        ⟨(some 87), none, .mv false (.s 86)⟩,
        ⟨(some 88), (some (87, true)), .call 12 [(.c (i64 (-257)))] []⟩,
        ⟨(some 89), (some (87, true)), .buildSl 1 3 [u8 0, u8 0, u8 0] [(0, 1, (.c (u8 125))), (1, 1, (.c (u8 254))), (2, 1, (.c (u8 255)))]⟩,
        ⟨(some 90), (some (87, true)), .call 38 [(.s 88), (.s 89)] []⟩,
        ⟨(some 91), none, .pick (.s 87) (.s 90) (.c (bo false))⟩,
        ⟨(some 92), none, .mv false (.s 91)⟩,
        ⟨(some 93), (some (92, true)), .mv false (.s 1)⟩,
        ⟨(some 94), (some (92, true)), .bin .eql (.s 93) (.c (i64 256))⟩,
        ⟨(some 95), none, .pick (.s 92) (.s 94) (.c (bo false))⟩,
        ⟨(some 96), none, .mv false (.s 95)⟩,
        ⟨(some 97), (some (96, true)), .mv false (.s 2)⟩,
        ⟨(some 98), (some (96, true)), .bin .eql (.s 97) (.c (i64 3))⟩,
        ⟨(some 99), none, .pick (.s 96) (.s 98) (.c (bo false))⟩,
        ⟨(some 100), none, .mv false (.s 99)⟩,
        ⟨(some 101), (some (100, true)), .mv false (.s 3)⟩,
        ⟨(some 102), (some (100, true)), .bin .eql (.s 101) (.c (i64 0))⟩,
        ⟨(some 103), none, .pick (.s 100) (.s 102) (.c (bo false))⟩,
        ⟨(some 104), none, .mv false (.s 103)⟩,
        ⟨(some 105), (some (104, true)), .mv false (.s 6)⟩,
        ⟨(some 106), (some (104, true)), .bin .eql (.s 105) (.c (i64 5))⟩,
        ⟨(some 107), none, .pick (.s 104) (.s 106) (.c (bo false))⟩,
        ⟨(some 108), none, .mv false (.s 107)⟩,
        ⟨(some 109), (some (108, true)), .mv false (.s 9)⟩,
        ⟨(some 110), (some (108, true)), .bin .eql (.s 109) (.c (i64 6))⟩,
        ⟨(some 111), none, .pick (.s 108) (.s 110) (.c (bo false))⟩,
        ⟨(some 112), none, .mv false (.s 111)⟩,
        ⟨(some 113), (some (112, true)), .mv false (.s 10)⟩,
        ⟨(some 114), (some (112, true)), .bin .eql (.s 113) (.c (st [97, 98]))⟩,
        ⟨(some 115), none, .pick (.s 112) (.s 114) (.c (bo false))⟩,
        ⟨(some 116), none, .mv false (.s 115)⟩,
        ⟨(some 117), (some (116, true)), .mv false (.s 11)⟩,
        ⟨(some 118), (some (116, true)), .bin .eql (.s 117) (.c (i64 4))⟩,
        ⟨(some 119), none, .pick (.s 116) (.s 118) (.c (bo false))⟩,
        ⟨(some 120), none, .mv false (.s 119)⟩,
        ⟨(some 121), (some (120, true)), .mv false (.s 12)⟩,
        ⟨(some 122), (some (120, true)), .bin .eql (.s 121) (.c (i64 0))⟩,
        ⟨(some 123), none, .pick (.s 120) (.s 122) (.c (bo false))⟩,
        ⟨(some 124), none, .mv false (.s 123)⟩,
        ⟨(some 125), (some (124, true)), .mv true (.s 13)⟩,
        ⟨(some 126), (some (124, true)), .buildSl 1 2 [i64 0, i64 0] [(0, 1, (.c (i64 1))), (1, 1, (.c (i64 (-1))))]⟩,
        ⟨(some 127), (some (124, true)), .call 54 [(.s 125), (.s 126)] []⟩,
        ⟨(some 128), none, .pick (.s 124) (.s 127) (.c (bo false))⟩,
        ⟨(some 129), none, .mv false (.s 128)⟩,
        ⟨(some 130), (some (129, true)), .mv false (.s 14)⟩,
        ⟨(some 131), (some (129, true)), .bin .eql (.s 130) (.c (i64 5))⟩,
        ⟨(some 132), none, .pick (.s 129) (.s 131) (.c (bo false))⟩,
        ⟨(some 133), none, .mv false (.s 132)⟩,
        ⟨(some 134), (some (133, true)), .mv false (.s 15)⟩,
        ⟨(some 135), (some (133, true)), .bin .eql (.s 134) (.c (i64 0))⟩,
        ⟨(some 136), none, .pick (.s 133) (.s 135) (.c (bo false))⟩,
        ⟨(some 137), none, .mv false (.s 136)⟩,
        ⟨(some 138), (some (137, true)), .call 7 [(.c (st [97, 98]))] []⟩,
        ⟨(some 139), (some (137, true)), .buildSl 1 4 [u8 0, u8 0, u8 0, u8 0] [(0, 1, (.c (u8 129))), (1, 1, (.c (u8 2))), (2, 1, (.c (u8 97))), (3, 1, (.c (u8 98)))]⟩,
        ⟨(some 140), (some (137, true)), .call 38 [(.s 138), (.s 139)] []⟩,
        ⟨(some 141), none, .pick (.s 137) (.s 140) (.c (bo false))⟩,
        ⟨(some 142), none, .mv false (.s 141)⟩,
        ⟨(some 143), (some (142, true)), .buildSl 1 2 [i64 0, i64 0] [(0, 1, (.c (i64 1))), (1, 1, (.c (i64 (-1))))]⟩,
        ⟨(some 144), (some (142, true)), .call 39 [(.s 143)] []⟩,
        ⟨(some 145), (some (142, true)), .buildSl 1 5 [u8 0, u8 0, u8 0, u8 0, u8 0] [(0, 1, (.c (u8 129))), (1, 1, (.c (u8 2))), (2, 1, (.c (u8 129))), (3, 1, (.c (u8 1))), (4, 1, (.c (u8 127)))]⟩,
        ⟨(some 146), (some (142, true)), .call 38 [(.s 144), (.s 145)] []⟩,
        ⟨(some 147), none, .pick (.s 142) (.s 146) (.c (bo false))⟩,
        ⟨(some 148), none, .mv false (.s 147)⟩,
        ⟨(some 149), (some (148, true)), .mv true (.s 17)⟩,
        ⟨(some 150), (some (148, true)), .load (some 16) (some 16) false (.s 16)⟩,
        ⟨(some 151), (some (148, true)), .buildSl 16 1 (bys (zeros 16)) [(0, 16, (.s 150))]⟩,
        ⟨(some 152), (some (148, true)), .call 60 [(.s 149), (.s 151)] []⟩,
        ⟨(some 153), none, .pick (.s 148) (.s 152) (.c (bo false))⟩,
        ⟨(some 154), none, .mv false (.s 153)⟩,
        ⟨(some 155), (some (154, true)), .mv false (.s 18)⟩,
        ⟨(some 156), (some (154, true)), .bin .eql (.s 155) (.c (i64 18))⟩,
        ⟨(some 157), none, .pick (.s 154) (.s 156) (.c (bo false))⟩,
        ⟨(some 158), none, .mv false (.s 157)⟩,
        ⟨(some 159), (some (158, true)), .mv false (.s 19)⟩,
        ⟨(some 160), (some (158, true)), .bin .eql (.s 159) (.c (i64 0))⟩,
        ⟨(some 161), none, .pick (.s 158) (.s 160) (.c (bo false))⟩,
        ⟨(some 0), none, .mv false (.s 161)⟩]) (
    .ret))))))))))) }

/-- custody custodylaw01.WireCanonical$1 = 68; calls custodyref01.Same = 38 -/
def f_custodylaw01_WireCanonical_1 : AFun :=
 { n := 4, wr := [], res := [.t 7], body :=
    .seq (
      .region [] [] [
        ⟨(some 7), none, .mv false (.c (bo false))⟩]) (
    .seq (
      .region [7] [] [
        ⟨(some 8), none, .mv false (.s 2)⟩,
        ⟨(some 9), none, .bin .neq (.s 8) (.c (i64 0))⟩,
        ⟨(some 10), none, .mv false (.s 9)⟩,
        ⟨(some 11), (some (10, false)), .mv false (.s 1)⟩,
        ⟨(some 12), (some (10, false)), .bin .geq (.s 11) (.c (i64 0))⟩,
        ⟨(some 13), (some (10, false)), .mv false (.s 12)⟩,
        ⟨(some 14), (some (13, true)), .mv false (.s 1)⟩,
        ⟨(some 15), (some (13, true)), .load none none false (.s 3)⟩,
        ⟨(some 16), (some (13, true)), .len false (.s 15)⟩,
        ⟨(some 17), (some (13, true)), .bin .leq (.s 14) (.s 16)⟩,
        ⟨(some 18), (some (10, false)), .pick (.s 13) (.s 17) (.c (bo false))⟩,
        ⟨(some 19), (some (10, false)), .mv false (.s 18)⟩,
        ⟨(some 20), (some (19, true)), .mv false (.s 0)⟩,
        ⟨(some 21), (some (19, true)), .load none none false (.s 3)⟩,
        ⟨(some 22), (some (19, true)), .mv false (.s 1)⟩,
        ⟨(some 23), (some (19, true)), .load none none false (.s 3)⟩,
        ⟨(some 24), (some (19, true)), .len false (.s 23)⟩,
        ⟨(some 25), (some (19, true)), .min2 (.s 22) (.s 24)⟩,
        ⟨(some 26), (some (19, true)), .max2 (.c (i64 0)) (.s 25)⟩,
        ⟨(some 27), (some (19, true)), .slSl 1 (.s 21) none (some (.s 26)) none⟩,
        ⟨(some 28), (some (19, true)), .call 38 [(.s 20), (.s 27)] []⟩,
        ⟨(some 29), (some (10, false)), .pick (.s 19) (.s 28) (.c (bo false))⟩,
        ⟨(some 30), none, .pick (.s 10) (.c (bo true)) (.s 29)⟩,
        ⟨(some 7), none, .mv false (.s 30)⟩]) (
    .ret)) }

end Go.Abs
end

section
namespace Go.Abs
theorem digs_lt {n : Nat} (h0 : n ≠ 0) (h1 : n < 256) : digs n = [UInt8.ofNat n] := by rw [digs_pos h0, Nat.div_eq_of_lt h1, digs_zero]
theorem dig1 : digs 1 = [1] := digs_lt (by decide) (by decide)
theorem dig2 : digs 2 = [2] := digs_lt (by decide) (by decide)
theorem dig256 : digs 256 = [0, 1] := by rw [digs_pos (by decide), show 256 / 256 = 1 from rfl, dig1]; rfl
theorem enc0 : encI 0 = [128] := by simp [encI, mag, flp, digs_zero]
theorem enc1 : encI 1 = [129, 1] := by simp [encI, mag, flp, dig1]
theorem enc2 : encI 2 = [129, 2] := by simp [encI, mag, flp, dig2]
theorem encm1 : encI (-1) = [127] := by simp [encI, mag, flp, digs_zero]
theorem encm257 : encI (-257) = [125, 254, 255] := by simp [encI, mag, flp, dig256]
def exD : List UInt8 := [1, 2, 0, 0, 0, 0, 0, 0, 0, 0, 0, 0, 0, 0, 0, 0]
theorem x1 : getI [130, 1, 0, 9] = (256, 3, 0) := by decide
theorem x2 : getI [130, 1] = (0, 0, 5) := by decide
theorem x3 : getI [129, 0] = (0, 0, 6) := by decide
theorem x4 : getS [129, 2, 97, 98, 7] = ([97, 98], 4, 0) := by decide
theorem x5 : getLs getI 1 [129, 2, 129, 1, 127] = ([1, -1], 5, 0) := by decide
theorem x6 : getD16 (encDs 1 exD) = (exD, 18, 0) := by rw [encDs, show ((1 : Nat) : Int) = 1 from rfl, enc1]; decide
theorem x7 : getLs getS 1 [129, 2, 128, 129, 1, 97, 5] = ([[], [97]], 6, 0) := by decide
theorem x8 : encSs [[], [97]] = [129, 2, 128, 129, 1, 97] := by simp [encSs, encS, enc0, enc1, enc2]
theorem x9 : encS [97, 98] = [129, 2, 97, 98] := by simp [encS, enc2]
theorem x10 : encIs [1, -1] = [129, 2, 129, 1, 127] := by simp [encIs, enc1, enc2, encm1]
theorem f1 (x : UInt8) : [u8 x] = bys [x] := rfl
theorem f2 (x : UInt8) (l : List UInt8) : u8 x :: bys l = bys (x :: l) := rfl
theorem f3 (x : List UInt8) : [st x] = sts [x] := rfl
theorem f4 (x : List UInt8) (l : List (List UInt8)) : st x :: sts l = sts (x :: l) := rfl
theorem f5 (x : Int) : [i64 x] = ints [x] := rfl
theorem f6 (x : Int) (l : List Int) : i64 x :: ints l = ints (x :: l) := rfl
theorem splice_bb (l m : List UInt8) (n : Nat) : splice (bys l) n (bys m) = bys (l.take n ++ m ++ l.drop (n + m.length)) := by simp [splice, bys_append]
theorem splice_ss (l m : List (List UInt8)) (n : Nat) : splice (sts l) n (sts m) = sts (l.take n ++ m ++ l.drop (n + m.length)) := by simp [splice, sts_append]
theorem splice_ii (l m : List Int) (n : Nat) : splice (ints l) n (ints m) = ints (l.take n ++ m ++ l.drop (n + m.length)) := by simp [splice, ← ints_app]
def lawIT : Contract := trueC fun ds => ∃ n nl tail, isI64 n ∧ ds = [i64 n, .sl .plain nl tail.length (bys tail)]
def lawII : Contract := trueC fun ds => ∃ m n, isI64 m ∧ isI64 n ∧ ds = [i64 m, i64 n]
def lawB : Contract := trueC fun ds => ∃ (nl : Option Bool) (b : List UInt8), ds = [.sl .plain nl b.length (bys b)]
theorem encI_ne (n : Int) : (encI n).length ≠ 0 := by simp [encI]
theorem getL_len {α : Type} (f : List UInt8 → α × Nat × Nat) : ∀ (n : Nat) (b : List UInt8) (i : Nat), (getL f n b i).1.length ≤ n
  | 0, b, i => by simp [getL]
  | n + 1, b, i => by
    have := getL_len f n b (i + (f (b.drop i)).2.1)
    rw [getL]
    split
    · simp
    · split
      · simp
      · simp only [List.length_cons]; omega
theorem getLs_len {α : Type} (f : List UInt8 → α × Nat × Nat) (b : List UInt8) : (getLs f 1 b).1.length ≤ b.length := by
  unfold getLs
  rcases cnt_cases b 1 (by decide) with (hE | hE) | ⟨hE, n, u, hg, hu, hn, hu9⟩
  · rw [hE]; simp
  · rw [hE]; simp
  · rw [if_pos hE, hg]
    have := getL_len f n b u
    simp only [Int.toNat_natCast]
    omega
theorem getD16_len (b : List UInt8) : (getD16 b).1.length = (getD16 b).1.length / 16 * 16 ∧ (getD16 b).1.length ≤ b.length := by
  unfold getD16
  rcases cnt_cases b 16 (by decide) with (hE | hE) | ⟨hE, n, u, hg, hu, hn, hu9⟩
  · rw [hE]; simp
  · rw [hE]; simp
  · rw [if_pos hE, hg]
    have : ((b.drop u).take (n * 16)).length = n * 16 := by rw [List.length_take, List.length_drop, Nat.min_eq_left hn]
    simp only [Int.toNat_natCast, this]
    omega
end Go.Abs
end

section
namespace Go.Abs
theorem bl_irr : ∀ a : List UInt8, Op.bytesLess a a = false
  | [] => rfl
  | x :: a => by
    have h : ¬ (x < x) := by rw [UInt8.lt_iff_toNat_lt]; omega
    simp [Op.bytesLess, bl_irr a, h]
theorem bl_asym : ∀ {a b : List UInt8}, Op.bytesLess a b = true → Op.bytesLess b a = false
  | [], [], h => by simp [Op.bytesLess] at h
  | _ :: _, [], h => by simp [Op.bytesLess] at h
  | [], _ :: _, _ => by simp [Op.bytesLess]
  | x :: a, y :: b, h => by
    simp only [Op.bytesLess, Bool.or_eq_true, Bool.and_eq_true, decide_eq_true_eq, beq_iff_eq] at h
    simp only [Op.bytesLess, Bool.or_eq_false_iff, Bool.and_eq_false_iff, decide_eq_false_iff_not]
    rcases h with h | ⟨rfl, h⟩
    · have h' := UInt8.lt_iff_toNat_lt.1 h
      refine ⟨by rw [UInt8.lt_iff_toNat_lt]; omega, .inl ?_⟩
      rw [beq_eq_false_iff_ne]
      intro e; subst e; omega
    · exact ⟨by rw [UInt8.lt_iff_toNat_lt]; omega, .inr (bl_asym h)⟩
theorem valD_append : ∀ a b : List UInt8, valD (a ++ b) = valD a + 256 ^ a.length * valD b
  | [], b => by simp [valD]
  | x :: a, b => by
    rw [List.cons_append, valD, valD_append a b, valD, List.length_cons, Nat.pow_succ, Nat.mul_add, Nat.mul_comm (256 ^ a.length) 256, Nat.mul_assoc]
    omega
theorem valB_cons (x : UInt8) (l : List UInt8) : valB (x :: l) = 256 ^ l.length * x.toNat + valB l := by
  rw [valB_eq, List.reverse_cons, valD_append, ← valB_eq, List.length_reverse]
  simp only [valD]
  rw [Nat.mul_zero, Nat.add_zero, Nat.add_comm]
theorem bl_val : ∀ {a b : List UInt8}, a.length = b.length → valB a < valB b → Op.bytesLess a b = true
  | [], [], _, h => by simp [valB] at h
  | _ :: _, [], h, _ => by simp at h
  | [], _ :: _, h, _ => by simp at h
  | x :: a, y :: b, hl, h => by
    simp only [List.length_cons, Nat.add_right_cancel_iff] at hl
    rw [valB_cons, valB_cons, hl] at h
    have h1 := valB_lt a
    have h2 := valB_lt b
    rw [hl] at h1
    generalize 256 ^ b.length = P at *
    simp only [Op.bytesLess, Bool.or_eq_true, Bool.and_eq_true, decide_eq_true_eq, beq_iff_eq]
    rcases Nat.lt_trichotomy x.toNat y.toNat with hxy | hxy | hxy
    · exact .inl (UInt8.lt_iff_toNat_lt.2 hxy)
    · have e := UInt8.toNat_inj.1 hxy
      subst e
      exact .inr ⟨rfl, bl_val hl (by omega)⟩
    · exfalso
      have := Nat.mul_le_mul_left P (show y.toNat + 1 ≤ x.toNat by omega)
      rw [Nat.mul_add, Nat.mul_one] at this
      omega
theorem bl_flip : ∀ {a b : List UInt8}, a.length = b.length → Op.bytesLess (a.map (255 - ·)) (b.map (255 - ·)) = Op.bytesLess b a
  | [], [], _ => rfl
  | _ :: _, [], h => by simp at h
  | [], _ :: _, h => by simp at h
  | x :: a, y :: b, hl => by
    simp only [List.length_cons, Nat.add_right_cancel_iff] at hl
    have hx := x.toNat_lt
    have hy := y.toNat_lt
    simp only [List.map_cons, Op.bytesLess, bl_flip hl]
    have e1 : (255 - x < 255 - y) = (y < x) := by
      rw [UInt8.lt_iff_toNat_lt, UInt8.lt_iff_toNat_lt, sub255, sub255]
      exact propext ⟨fun h => by omega, fun h => by omega⟩
    have e2 : (255 - x == 255 - y) = (y == x) := by
      rw [Bool.eq_iff_iff, beq_iff_eq, beq_iff_eq, ← UInt8.toNat_inj, ← UInt8.toNat_inj, sub255, sub255]
      omega
    simp only [e1, e2]
theorem digs_mono {a b : Nat} (h : a ≤ b) : (digs a).length ≤ (digs b).length := by
  rw [digs_len]
  exact Nat.lt_of_le_of_lt h ((digs_len _ b).1 (Nat.le_refl _))
theorem enc_less {m n : Int} (hm : isI64 m) (hn : isI64 n) (h : m < n) : Op.bytesLess (encI m) (encI n) = true := by
  have km := digs_len8 hm
  have kn := digs_len8 hn
  simp only [encI, Op.bytesLess, Bool.or_eq_true, Bool.and_eq_true, decide_eq_true_eq, beq_iff_eq, UInt8.lt_iff_toNat_lt, ← UInt8.toNat_inj, head_nat km, head_nat kn]
  by_cases h1 : n < 0
  · have h2 : m < 0 := by omega
    have hg : mag n < mag m := by unfold mag; rw [if_pos h1, if_pos h2]; omega
    have hd := digs_mono (Nat.le_of_lt hg)
    rw [if_pos h1, if_pos h2]
    by_cases he : (digs (mag m)).length = (digs (mag n)).length
    · refine .inr ⟨by omega, ?_⟩
      rw [show flp m = (255 - ·) from funext fun c => by simp [flp, h2], show flp n = (255 - ·) from funext fun c => by simp [flp, h1], bl_flip (by simpa using he)]
      exact bl_val (by simpa using he.symm) (by rw [valB_digs, valB_digs]; exact hg)
    · exact .inl (by omega)
  · rw [if_neg h1]
    by_cases h2 : m < 0
    · rw [if_pos h2]; exact .inl (by omega)
    · rw [if_neg h2]
      have hg : mag m < mag n := by unfold mag; rw [if_neg h1, if_neg h2]; omega
      have hd := digs_mono (Nat.le_of_lt hg)
      by_cases he : (digs (mag m)).length = (digs (mag n)).length
      · refine .inr ⟨by omega, ?_⟩
        rw [show flp m = id from funext fun c => by simp [flp, h2], show flp n = id from funext fun c => by simp [flp, h1], List.map_id, List.map_id]
        exact bl_val (by simpa using he) (by rw [valB_digs, valB_digs]; exact hg)
      · exact .inl (by omega)
theorem enc_lt {m n : Int} (hm : isI64 m) (hn : isI64 n) : Op.bytesLess (encI m) (encI n) = decide (m < n) := by
  rcases Int.lt_trichotomy m n with h | h | h
  · rw [enc_less hm hn h]; simp [h]
  · subst h; rw [bl_irr]; simp
  · rw [bl_asym (enc_less hn hm h), decide_eq_false (by omega)]
theorem enc_eq {m n : Int} (hm : isI64 m) (hn : isI64 n) : (encI m = encI n) ↔ m = n :=
  ⟨fun h => (encI_app_inj hm hn (r := []) (r' := []) (by rw [h])).1, fun h => by rw [h]⟩
theorem enc_take {m n : Int} (hm : isI64 m) (hn : isI64 n) {k : Nat} (hk : k = min (encI m).length (encI n).length) : ((encI m).take k = (encI n).take k) ↔ m = n := by
  constructor
  · intro h
    subst hk
    rcases Nat.le_total (encI m).length (encI n).length with hl | hl
    · rw [Nat.min_eq_left hl, List.take_length] at h
      refine (encI_app_inj hm hn (r := (encI n).drop (encI m).length) (r' := []) ?_).1
      rw [h, List.length_take, Nat.min_eq_left hl, List.take_append_drop, List.append_nil]
    · rw [Nat.min_eq_right hl, List.take_length] at h
      refine (encI_app_inj hm hn (r := []) (r' := (encI m).drop (encI n).length) ?_).1
      rw [← h, List.length_take, Nat.min_eq_left hl, List.take_append_drop, List.append_nil]
  · intro h; rw [h]
end Go.Abs
end

section
namespace Go.Abs
set_option maxRecDepth 100000
set_option maxHeartbeats 8000000 in
theorem wsan_ok (E : Env) (h38 : E.G 38 = sameC) (h60 : E.G 60 = sameDC) (h54 : E.G 54 = sameIC) (h57 : E.G 57 = sameSC) (h7 : E.G 7 = bytesC) (h43 : E.G 43 = wDigsC) (h48 : E.G 48 = getBytesC) (h58 : E.G 58 = getDigsC) (h45 : E.G 45 = getIntC) (h52 : E.G 52 = getIntsC) (h55 : E.G 55 = getStrsC) (h12 : E.G 12 = intC) (h39 : E.G 39 = wIntsC) (h41 : E.G 41 = wStrsC) : ∀ ds, sanC.pre ds → ds.length = f_custodylaw01_sanity.n ∧ awp E f_custodylaw01_sanity.body (retQ f_custodylaw01_sanity.res (sanC.post ds)) (initSt f_custodylaw01_sanity.wr ds) := by
  rintro _ rfl
  have hd : (1 : UInt8) :: 2 :: zeros 14 = exD := rfl
  have hl : exD.length = 16 := rfl
  have f7 : [i64 1, i64 (-1)] = ints [1, -1] := rfl
  have f8 : [st [], st [97]] = sts [[], [97]] := rfl
  have ht : exD.take 16 = exD := rfl
  have hz : zeros 0 = [] := rfl
  simp (maxSteps := 1000000) (disch := first | omega | (simp; done) | (simp; omega)) [W_id, bys_app, bys_snoc, f_custodylaw01_sanity, sanC, trueC, f1, f2, f8, f7, hz, hd, hl, ht, zeros_drop, splice_bb, h38, h60, h54, h57, h7, h43, h48, h58, h45, h52, h55, h12, h39, h41, getIntC, getBytesC, getIntsC, getStrsC, getDigsC, wIntsC, wStrsC, wDigsC, onB_pre, onIs_pre, onSs_pre, onDs_pre, same_pre, sameI_pre, sameS_pre, sameD_pre, int_pre, bytes_pre, vI, vIs, vSs, vD, tri_def, x1, x2, x3, x4, x5, x6, x7, x8, x9, x10, encm257, own1]
  refine ⟨of_eq_true (onB_pre (by simp [encDs, enc1, hl]) rfl), of_eq_true (onSs_pre (by decide) rfl), of_eq_true (onIs_pre (by simp) (fun x hx => ?_) rfl)⟩
  simp at hx
  rcases hx with rfl | rfl <;> (unfold isI64; decide)
end Go.Abs
end

section
namespace Go.Abs
set_option maxRecDepth 100000
theorem law_IntRound_ok (E : Env) (h63 : E.G 63 = sanC) (h12 : E.G 12 = intC) (h45 : E.G 45 = getIntC) : ∀ ds, lawIT.pre ds → ds.length = f_custodylaw01_WireIntRoundTrip.n ∧ awp E f_custodylaw01_WireIntRoundTrip.body (retQ f_custodylaw01_WireIntRoundTrip.res (lawIT.post ds)) (initSt f_custodylaw01_WireIntRoundTrip.wr ds) := by
  rintro _ ⟨n, nl, tail, ⟨i0, i1⟩, rfl⟩
  have hl := encI_len (n := n) ⟨i0, i1⟩
  have h0 := encI_ne n
  have hg := getI_enc (n := n) ⟨i0, i1⟩ tail
  simp (maxSteps := 1000000) (disch := first | omega | (simp; done) | (simp; omega)) [W_id, bys_app, bys_snoc, f_custodylaw01_WireIntRoundTrip, h63, lawIT, trueC]
  rw [awp_cond]
  refine ⟨by simp, fun h => ?_, fun h => ?_⟩ <;> simp at h
  · simp (maxSteps := 1000000) (disch := first | omega | (simp; done) | (simp; omega)) [W_id, bys_app, bys_snoc, h63]
  simp (maxSteps := 1000000) (disch := first | omega | (simp; done) | (simp; omega)) [W_id, bys_app, bys_snoc, f_custodylaw01_WireIntRoundTrip_r0, h63, h12, int_pre, h45, getIntC, onB_pre, vI, hg, tri_def, h0, dT]
  omega
theorem law_Decode_ok (E : Env) (h63 : E.G 63 = sanC) (h45 : E.G 45 = getIntC) (h46 : E.G 46 = getIntC) (h48 : E.G 48 = getBytesC) (h50 : E.G 50 = getBytesC) (h52 : E.G 52 = getIntsC) (h53 : E.G 53 = getIntsC) (h54 : E.G 54 = sameIC) (h55 : E.G 55 = getStrsC) (h56 : E.G 56 = getStrsC) (h57 : E.G 57 = sameSC) (h58 : E.G 58 = getDigsC) (h59 : E.G 59 = getDigsC) (h60 : E.G 60 = sameDC) : ∀ ds, lawB.pre ds → ds.length = f_custodylaw01_WireDecodeMatchesSpec.n ∧ awp E f_custodylaw01_WireDecodeMatchesSpec.body (retQ f_custodylaw01_WireDecodeMatchesSpec.res (lawB.post ds)) (initSt f_custodylaw01_WireDecodeMatchesSpec.wr ds) := by
  rintro _ ⟨nl, b, rfl⟩
  simp (maxSteps := 1000000) (disch := first | omega | (simp; done) | (simp; omega)) [W_id, bys_app, bys_snoc, f_custodylaw01_WireDecodeMatchesSpec, h63, lawB, trueC]
  rw [awp_cond]
  refine ⟨by simp, fun h => ?_, fun h => ?_⟩ <;> simp at h
  · simp (maxSteps := 1000000) (disch := first | omega | (simp; done) | (simp; omega)) [W_id, bys_app, bys_snoc, h63]
  have h1 := getLs_len getI b
  have h2 := getLs_len getS b
  obtain ⟨h3, h4⟩ := getD16_len b
  simp (maxSteps := 1000000) (disch := first | omega | (simp; done) | (simp; omega)) [W_id, bys_app, bys_snoc, f_custodylaw01_WireDecodeMatchesSpec_r0, h45, h46, getIntC, onB_pre, vI, tri_def]
  rw [awp_cond]
  refine ⟨by simp, fun ha => ?_, fun ha => ?_⟩ <;> simp at ha
  simp (maxSteps := 1000000) (disch := first | omega | (simp; done) | (simp; omega)) [W_id, bys_app, bys_snoc, f_custodylaw01_WireDecodeMatchesSpec_r1, h48, h50, getBytesC, onB_pre, tri_def]
  rw [awp_cond]
  refine ⟨by simp, fun hb => ?_, fun hb => ?_⟩ <;> simp at hb
  simp (maxSteps := 1000000) (disch := first | omega | (simp; done) | (simp; omega)) [W_id, bys_app, bys_snoc, f_custodylaw01_WireDecodeMatchesSpec_r2, h52, h53, h54, getIntsC, onB_pre, vIs, sameI_pre, tri_def]
  rw [awp_cond]
  refine ⟨by simp, fun hc => ?_, fun hc => ?_⟩ <;> simp at hc
  simp (maxSteps := 1000000) (disch := first | omega | (simp; done) | (simp; omega)) [W_id, bys_app, bys_snoc, f_custodylaw01_WireDecodeMatchesSpec_r3, h55, h56, h57, getStrsC, onB_pre, vSs, sameS_pre, tri_def]
  rw [awp_cond]
  refine ⟨by simp, fun hd => ?_, fun hd => ?_⟩ <;> simp at hd
  simp (maxSteps := 1000000) (disch := first | omega | (simp; done) | (simp; omega)) [W_id, bys_app, bys_snoc, f_custodylaw01_WireDecodeMatchesSpec_r4, h58, h59, h60, h63, getDigsC, onB_pre, vD, sameD_pre, tri_def]
theorem bin_st_lss (x y : List UInt8) : binV .lss (st x) (st y) = bo (Op.bytesLess x y) := by
  show AVal.lit (.bool (Op.bytesLess (ByteArray.mk x.toArray).toList (ByteArray.mk y.toArray).toList)) = _
  rw [bo, ByteArray.toList_eq, ByteArray.toList_eq]
def minV (x y : AVal) : AVal := match x, y with | .lit (.int k a), .lit (.int _ b) => .lit (.int k (if b < a then b else a)) | _, _ => .undef
theorem eff_min2 (E : Env) (get : Nat → AVal) (getB : Nat → Option (List AVal)) (x y : Arg) : eff E get getB (.min2 x y) = { val := minV (arg E get x) (arg E get y) } := rfl
theorem minV_i64 (a b : Int) : minV (i64 a) (i64 b) = i64 (if b < a then b else a) := rfl
set_option maxHeartbeats 4000000 in
theorem law_Order_ok (E : Env) (h63 : E.G 63 = sanC) (h12 : E.G 12 = intC) : ∀ ds, lawII.pre ds → ds.length = f_custodylaw01_WireOrder.n ∧ awp E f_custodylaw01_WireOrder.body (retQ f_custodylaw01_WireOrder.res (lawII.post ds)) (initSt f_custodylaw01_WireOrder.wr ds) := by
  rintro _ ⟨m, n, hm, hn, rfl⟩
  have h1 := enc_lt hm hn
  have h2 := enc_eq hm hn
  have hb : (m == n) = decide (m = n) := by rw [Bool.eq_iff_iff]; simp
  obtain ⟨m0, m1⟩ := hm
  obtain ⟨n0, n1⟩ := hn
  by_cases hk : (encI n).length < (encI m).length
  · have hk' : ((encI n).length : Int) < (encI m).length := by omega
    have h3 := enc_take (k := (encI n).length) ⟨m0, m1⟩ ⟨n0, n1⟩ (by omega)
    simp (maxSteps := 1000000) (disch := first | omega | (simp; done) | (simp; omega)) [W_id, bys_app, bys_snoc, f_custodylaw01_WireOrder, h63, lawII, trueC, h12, int_pre, bin_st_lss, h1, h2, h3, hb, hk', ↓eff_min2, minV_i64]
    rw [List.take_length] at h3
    exact ⟨by omega, h3⟩
  · have hk' : ¬ ((encI n).length : Int) < (encI m).length := by omega
    have h3 := enc_take (k := (encI m).length) ⟨m0, m1⟩ ⟨n0, n1⟩ (by omega)
    simp (maxSteps := 1000000) (disch := first | omega | (simp; done) | (simp; omega)) [W_id, bys_app, bys_snoc, f_custodylaw01_WireOrder, h63, lawII, trueC, h12, int_pre, bin_st_lss, h1, h2, h3, hb, hk', ↓eff_min2, minV_i64]
    rw [List.take_length] at h3
    exact ⟨by omega, h3⟩
end Go.Abs
end

section
namespace Go.Abs
theorem lawIT_pre (as : List AVal) (h : hasA [.int .i64, .sl (.int .u8)] as) : lawIT.pre as := by
  simp only [hasA] at h
  obtain ⟨c0, _, rfl, h0, c1, _, rfl, h1, rfl⟩ := h
  obtain ⟨n, n0, n1, rfl⟩ := has_i64 h0
  obtain ⟨l, rfl⟩ := has_bytes h1
  exact ⟨n, none, l, ⟨n0, n1⟩, rfl⟩
theorem lawII_pre (as : List AVal) (h : hasA [.int .i64, .int .i64] as) : lawII.pre as := by
  simp only [hasA] at h
  obtain ⟨c0, _, rfl, h0, c1, _, rfl, h1, rfl⟩ := h
  obtain ⟨m, m0, m1, rfl⟩ := has_i64 h0
  obtain ⟨n, n0, n1, rfl⟩ := has_i64 h1
  exact ⟨m, n, ⟨m0, m1⟩, ⟨n0, n1⟩, rfl⟩
theorem lawB_pre (as : List AVal) (h : hasA [.sl (.int .u8)] as) : lawB.pre as := by
  simp only [hasA] at h
  obtain ⟨c0, _, rfl, h0, rfl⟩ := h
  obtain ⟨l, rfl⟩ := has_bytes h0
  exact ⟨none, l, rfl⟩
end Go.Abs
end
