/- Lemmas: an abstract interpreter, and what the functions compute. -/
import Derived.Test.YtdmindmelaemjaaC
import Derived.Test.YtdmindmelaemjaaE
import Derived.Test.YtdmindmelaemjaaD
set_option linter.unusedSimpArgs false
set_option linter.unusedVariables false
set_option linter.unusedSectionVars false
section
namespace Go.Abs
set_option maxRecDepth 100000
/-- custody custodylaw01.WireEncodeMatchesSpec = 64; calls custodylaw01.few = 62, custodylaw01.sanity = 63, custodyref01.Bytes = 29, custodyref01.Digests = 44, custodyref01.Int = 30, custodyref01.Ints = 40, custodyref01.Same = 38, custodyref01.Strings = 42, wire.Bytes = 7, wire.Digests = 43, wire.Int = 12, wire.Ints = 39, wire.Strings = 41 -/
def f_custodylaw01_WireEncodeMatchesSpec_r0 : ACode :=
  .seq (
    .region [10] [] [
      ⟨(some 26), none, .call 63 [] []⟩,
      ⟨(some 27), none, .mv false (.s 26)⟩,
      ⟨(some 28), (some (27, true)), .mv false (.s 0)⟩,
      ⟨(some 29), (some (27, true)), .call 12 [(.s 28)] []⟩,
      ⟨(some 30), (some (27, true)), .mv false (.s 0)⟩,
      ⟨(some 31), (some (27, true)), .call 30 [(.s 30)] []⟩,
      ⟨(some 32), (some (27, true)), .call 38 [(.s 29), (.s 31)] []⟩,
      ⟨(some 33), none, .pick (.s 27) (.s 32) (.c (bo false))⟩,
      ⟨(some 34), none, .mv false (.s 33)⟩,
      ⟨(some 35), (some (34, true)), .mv false (.s 1)⟩,
      ⟨(some 36), (some (34, true)), .call 7 [(.s 35)] []⟩,
      ⟨(some 37), (some (34, true)), .mv false (.s 1)⟩,
      ⟨(some 38), (some (34, true)), .call 29 [(.s 37)] []⟩,
      ⟨(some 39), (some (34, true)), .call 38 [(.s 36), (.s 38)] []⟩,
      ⟨(some 40), none, .pick (.s 34) (.s 39) (.c (bo false))⟩,
      ⟨(some 41), none, .mv false (.s 40)⟩,
      ⟨(some 42), (some (41, true)), .mv false (.s 2)⟩,
      ⟨(some 43), (some (41, true)), .call 39 [(.s 42)] []⟩,
      ⟨(some 44), (some (41, true)), .mv false (.s 2)⟩,
      ⟨(some 45), (some (41, true)), .call 40 [(.s 44)] []⟩,
      ⟨(some 46), (some (41, true)), .call 38 [(.s 43), (.s 45)] []⟩,
      ⟨(some 47), none, .pick (.s 41) (.s 46) (.c (bo false))⟩,
      ⟨(some 48), none, .mv false (.s 47)⟩,
      ⟨(some 49), (some (48, true)), .mv false (.s 3)⟩,
      ⟨(some 50), (some (48, true)), .call 41 [(.s 49)] []⟩,
      ⟨(some 51), (some (48, true)), .mv false (.s 3)⟩,
      ⟨(some 52), (some (48, true)), .call 42 [(.s 51)] []⟩,
      ⟨(some 53), (some (48, true)), .call 38 [(.s 50), (.s 52)] []⟩,
      ⟨(some 54), none, .pick (.s 48) (.s 53) (.c (bo false))⟩,
      ⟨(some 55), none, .mv false (.s 54)⟩,
      ⟨(some 56), (some (55, true)), .mv false (.s 4)⟩,
      ⟨(some 57), (some (55, true)), .call 43 [(.s 56)] []⟩,
      ⟨(some 58), (some (55, true)), .mv false (.s 4)⟩,
      ⟨(some 59), (some (55, true)), .call 44 [(.s 58)] []⟩,
      ⟨(some 60), (some (55, true)), .call 38 [(.s 57), (.s 59)] []⟩,
      ⟨(some 61), none, .pick (.s 55) (.s 60) (.c (bo false))⟩,
      ⟨(some 10), none, .mv false (.s 61)⟩]) (
  .ret)
def f_custodylaw01_WireEncodeMatchesSpec : AFun :=
 { n := 5, wr := [], res := [.t 10], body :=
    .seq (
      .region [] [] [
        ⟨(some 10), none, .mv false (.c (bo false))⟩]) (
    .seq (
      .seq (
        .region [24] [] [
          ⟨(some 11), none, .mv false (.s 1)⟩,
          ⟨(some 12), none, .len true (.s 11)⟩,
          ⟨(some 13), none, .mv false (.s 2)⟩,
          ⟨(some 14), none, .len false (.s 13)⟩,
          ⟨(some 15), none, .bin .add (.s 12) (.s 14)⟩,
          ⟨(some 16), none, .mv false (.s 4)⟩,
          ⟨(some 17), none, .len false (.s 16)⟩,
          ⟨(some 18), none, .bin .add (.s 15) (.s 17)⟩,
          ⟨(some 19), none, .bin .gtr (.s 18) (.c (i64 2000))⟩,
          ⟨(some 20), none, .mv false (.s 19)⟩,
          ⟨(some 21), (some (20, false)), .mv false (.s 3)⟩,
          ⟨(some 22), (some (20, false)), .call 62 [(.s 21)] []⟩,
          ⟨(some 23), (some (20, false)), .un .not (.s 22)⟩,
          ⟨(some 24), none, .pick (.s 20) (.c (bo true)) (.s 23)⟩]) (
      .cond (.s 24) (
        .seq (
          .region [10] [] [
            ⟨(some 25), none, .call 63 [] []⟩,
            ⟨(some 10), none, .mv false (.s 25)⟩]) (
        .ret)) (
        .ghost (.keep []) .skip))) (
    f_custodylaw01_WireEncodeMatchesSpec_r0)) }

/-- custody custodylaw01.WireDecodeMatchesSpec = 65; calls custodylaw01.sanity = 63, custodyref01.GetBytes = 50, custodyref01.GetDigests = 59, custodyref01.GetInt = 46, custodyref01.GetInts = 53, custodyref01.GetStrings = 56, custodyref01.SameDigests = 60, custodyref01.SameInts = 54, custodyref01.SameTexts = 57, wire.GetBytes = 48, wire.GetDigests = 58, wire.GetInt = 45, wire.GetInts = 52, wire.GetStrings = 55 -/
def f_custodylaw01_WireDecodeMatchesSpec_r4 : ACode :=
  .seq (
    .region [27, 28, 29] [] [
      ⟨(some 140), none, .mv false (.s 0)⟩,
      ⟨(some 141), none, .call 58 [(.s 140)] []⟩,
      ⟨(some 139), none, .mv false (.s 141)⟩,
      ⟨(some 142), none, .extract 0 (.s 139)⟩,
      ⟨(some 143), none, .extract 1 (.s 139)⟩,
      ⟨(some 144), none, .extract 2 (.s 139)⟩,
      ⟨(some 27), none, .mv true (.s 142)⟩,
      ⟨(some 28), none, .mv false (.s 143)⟩,
      ⟨(some 29), none, .mv false (.s 144)⟩]) (
  .seq (
    .region [27, 28, 29, 30, 31, 32] [] [
      ⟨(some 146), none, .mv false (.s 0)⟩,
      ⟨(some 147), none, .call 59 [(.s 146)] []⟩,
      ⟨(some 145), none, .mv false (.s 147)⟩,
      ⟨(some 148), none, .extract 0 (.s 145)⟩,
      ⟨(some 149), none, .extract 1 (.s 145)⟩,
      ⟨(some 150), none, .extract 2 (.s 145)⟩,
      ⟨(some 30), none, .mv true (.s 148)⟩,
      ⟨(some 31), none, .mv false (.s 149)⟩,
      ⟨(some 32), none, .mv false (.s 150)⟩]) (
  .seq (
    .region [2] [] [
      ⟨(some 151), none, .call 63 [] []⟩,
      ⟨(some 152), none, .mv false (.s 151)⟩,
      ⟨(some 153), (some (152, true)), .mv true (.s 27)⟩,
      ⟨(some 154), (some (152, true)), .mv true (.s 30)⟩,
      ⟨(some 155), (some (152, true)), .call 60 [(.s 153), (.s 154)] []⟩,
      ⟨(some 156), none, .pick (.s 152) (.s 155) (.c (bo false))⟩,
      ⟨(some 157), none, .mv false (.s 156)⟩,
      ⟨(some 158), (some (157, true)), .mv false (.s 28)⟩,
      ⟨(some 159), (some (157, true)), .mv false (.s 31)⟩,
      ⟨(some 160), (some (157, true)), .bin .eql (.s 158) (.s 159)⟩,
      ⟨(some 161), none, .pick (.s 157) (.s 160) (.c (bo false))⟩,
      ⟨(some 162), none, .mv false (.s 161)⟩,
      ⟨(some 163), (some (162, true)), .mv false (.s 29)⟩,
      ⟨(some 164), (some (162, true)), .mv false (.s 32)⟩,
      ⟨(some 165), (some (162, true)), .bin .eql (.s 163) (.s 164)⟩,
      ⟨(some 166), none, .pick (.s 162) (.s 165) (.c (bo false))⟩,
      ⟨(some 2), none, .mv false (.s 166)⟩]) (
  .ret)))
def f_custodylaw01_WireDecodeMatchesSpec_r3 : ACode :=
  .seq (
    .region [21, 22, 23] [] [
      ⟨(some 114), none, .mv false (.s 0)⟩,
      ⟨(some 115), none, .call 55 [(.s 114)] []⟩,
      ⟨(some 113), none, .mv false (.s 115)⟩,
      ⟨(some 116), none, .extract 0 (.s 113)⟩,
      ⟨(some 117), none, .extract 1 (.s 113)⟩,
      ⟨(some 118), none, .extract 2 (.s 113)⟩,
      ⟨(some 21), none, .mv true (.s 116)⟩,
      ⟨(some 22), none, .mv false (.s 117)⟩,
      ⟨(some 23), none, .mv false (.s 118)⟩]) (
  .seq (
    .region [21, 22, 23, 24, 25, 26] [] [
      ⟨(some 120), none, .mv false (.s 0)⟩,
      ⟨(some 121), none, .call 56 [(.s 120)] []⟩,
      ⟨(some 119), none, .mv false (.s 121)⟩,
      ⟨(some 122), none, .extract 0 (.s 119)⟩,
      ⟨(some 123), none, .extract 1 (.s 119)⟩,
      ⟨(some 124), none, .extract 2 (.s 119)⟩,
      ⟨(some 24), none, .mv true (.s 122)⟩,
      ⟨(some 25), none, .mv false (.s 123)⟩,
      ⟨(some 26), none, .mv false (.s 124)⟩]) (
  .seq (
    .seq (
      .region [138] [] [
        ⟨(some 125), none, .mv true (.s 21)⟩,
        ⟨(some 126), none, .mv true (.s 24)⟩,
        ⟨(some 127), none, .call 57 [(.s 125), (.s 126)] []⟩,
        ⟨(some 128), none, .un .not (.s 127)⟩,
        ⟨(some 129), none, .mv false (.s 128)⟩,
        ⟨(some 130), (some (129, false)), .mv false (.s 22)⟩,
        ⟨(some 131), (some (129, false)), .mv false (.s 25)⟩,
        ⟨(some 132), (some (129, false)), .bin .neq (.s 130) (.s 131)⟩,
        ⟨(some 133), none, .pick (.s 129) (.c (bo true)) (.s 132)⟩,
        ⟨(some 134), none, .mv false (.s 133)⟩,
        ⟨(some 135), (some (134, false)), .mv false (.s 23)⟩,
        ⟨(some 136), (some (134, false)), .mv false (.s 26)⟩,
        ⟨(some 137), (some (134, false)), .bin .neq (.s 135) (.s 136)⟩,
        ⟨(some 138), none, .pick (.s 134) (.c (bo true)) (.s 137)⟩]) (
    .cond (.s 138) (
      .seq (
        .region [2] [] [
          ⟨(some 2), none, .mv false (.c (bo false))⟩]) (
      .ret)) (
      .ghost (.keep []) .skip))) (
  f_custodylaw01_WireDecodeMatchesSpec_r4)))
def f_custodylaw01_WireDecodeMatchesSpec_r2 : ACode :=
  .seq (
    .region [15, 16, 17] [] [
      ⟨(some 88), none, .mv false (.s 0)⟩,
      ⟨(some 89), none, .call 52 [(.s 88)] []⟩,
      ⟨(some 87), none, .mv false (.s 89)⟩,
      ⟨(some 90), none, .extract 0 (.s 87)⟩,
      ⟨(some 91), none, .extract 1 (.s 87)⟩,
      ⟨(some 92), none, .extract 2 (.s 87)⟩,
      ⟨(some 15), none, .mv true (.s 90)⟩,
      ⟨(some 16), none, .mv false (.s 91)⟩,
      ⟨(some 17), none, .mv false (.s 92)⟩]) (
  .seq (
    .region [15, 16, 17, 18, 19, 20] [] [
      ⟨(some 94), none, .mv false (.s 0)⟩,
      ⟨(some 95), none, .call 53 [(.s 94)] []⟩,
      ⟨(some 93), none, .mv false (.s 95)⟩,
      ⟨(some 96), none, .extract 0 (.s 93)⟩,
      ⟨(some 97), none, .extract 1 (.s 93)⟩,
      ⟨(some 98), none, .extract 2 (.s 93)⟩,
      ⟨(some 18), none, .mv true (.s 96)⟩,
      ⟨(some 19), none, .mv false (.s 97)⟩,
      ⟨(some 20), none, .mv false (.s 98)⟩]) (
  .seq (
    .seq (
      .region [112] [] [
        ⟨(some 99), none, .mv true (.s 15)⟩,
        ⟨(some 100), none, .mv true (.s 18)⟩,
        ⟨(some 101), none, .call 54 [(.s 99), (.s 100)] []⟩,
        ⟨(some 102), none, .un .not (.s 101)⟩,
        ⟨(some 103), none, .mv false (.s 102)⟩,
        ⟨(some 104), (some (103, false)), .mv false (.s 16)⟩,
        ⟨(some 105), (some (103, false)), .mv false (.s 19)⟩,
        ⟨(some 106), (some (103, false)), .bin .neq (.s 104) (.s 105)⟩,
        ⟨(some 107), none, .pick (.s 103) (.c (bo true)) (.s 106)⟩,
        ⟨(some 108), none, .mv false (.s 107)⟩,
        ⟨(some 109), (some (108, false)), .mv false (.s 17)⟩,
        ⟨(some 110), (some (108, false)), .mv false (.s 20)⟩,
        ⟨(some 111), (some (108, false)), .bin .neq (.s 109) (.s 110)⟩,
        ⟨(some 112), none, .pick (.s 108) (.c (bo true)) (.s 111)⟩]) (
    .cond (.s 112) (
      .seq (
        .region [2] [] [
          ⟨(some 2), none, .mv false (.c (bo false))⟩]) (
      .ret)) (
      .ghost (.keep []) .skip))) (
  f_custodylaw01_WireDecodeMatchesSpec_r3)))
def f_custodylaw01_WireDecodeMatchesSpec_r1 : ACode :=
  .seq (
    .region [9, 10, 11] [] [
      ⟨(some 63), none, .mv false (.s 0)⟩,
      ⟨(some 64), none, .call 48 [(.s 63)] []⟩,
      ⟨(some 62), none, .mv false (.s 64)⟩,
      ⟨(some 65), none, .extract 0 (.s 62)⟩,
      ⟨(some 66), none, .extract 1 (.s 62)⟩,
      ⟨(some 67), none, .extract 2 (.s 62)⟩,
      ⟨(some 9), none, .mv false (.s 65)⟩,
      ⟨(some 10), none, .mv false (.s 66)⟩,
      ⟨(some 11), none, .mv false (.s 67)⟩]) (
  .seq (
    .region [9, 10, 11, 12, 13, 14] [] [
      ⟨(some 69), none, .mv false (.s 0)⟩,
      ⟨(some 70), none, .call 50 [(.s 69)] []⟩,
      ⟨(some 68), none, .mv false (.s 70)⟩,
      ⟨(some 71), none, .extract 0 (.s 68)⟩,
      ⟨(some 72), none, .extract 1 (.s 68)⟩,
      ⟨(some 73), none, .extract 2 (.s 68)⟩,
      ⟨(some 12), none, .mv false (.s 71)⟩,
      ⟨(some 13), none, .mv false (.s 72)⟩,
      ⟨(some 14), none, .mv false (.s 73)⟩]) (
  .seq (
    .seq (
      .region [86] [] [
        ⟨(some 74), none, .mv false (.s 9)⟩,
        ⟨(some 75), none, .mv false (.s 12)⟩,
        ⟨(some 76), none, .bin .neq (.s 74) (.s 75)⟩,
        ⟨(some 77), none, .mv false (.s 76)⟩,
        ⟨(some 78), (some (77, false)), .mv false (.s 10)⟩,
        ⟨(some 79), (some (77, false)), .mv false (.s 13)⟩,
        ⟨(some 80), (some (77, false)), .bin .neq (.s 78) (.s 79)⟩,
        ⟨(some 81), none, .pick (.s 77) (.c (bo true)) (.s 80)⟩,
        ⟨(some 82), none, .mv false (.s 81)⟩,
        ⟨(some 83), (some (82, false)), .mv false (.s 11)⟩,
        ⟨(some 84), (some (82, false)), .mv false (.s 14)⟩,
        ⟨(some 85), (some (82, false)), .bin .neq (.s 83) (.s 84)⟩,
        ⟨(some 86), none, .pick (.s 82) (.c (bo true)) (.s 85)⟩]) (
    .cond (.s 86) (
      .seq (
        .region [2] [] [
          ⟨(some 2), none, .mv false (.c (bo false))⟩]) (
      .ret)) (
      .ghost (.keep []) .skip))) (
  f_custodylaw01_WireDecodeMatchesSpec_r2)))
def f_custodylaw01_WireDecodeMatchesSpec_r0 : ACode :=
  .seq (
    .region [3, 4, 5] [] [
      ⟨(some 38), none, .mv false (.s 0)⟩,
      ⟨(some 39), none, .call 45 [(.s 38)] []⟩,
      ⟨(some 37), none, .mv false (.s 39)⟩,
      ⟨(some 40), none, .extract 0 (.s 37)⟩,
      ⟨(some 41), none, .extract 1 (.s 37)⟩,
      ⟨(some 42), none, .extract 2 (.s 37)⟩,
      ⟨(some 3), none, .mv false (.s 40)⟩,
      ⟨(some 4), none, .mv false (.s 41)⟩,
      ⟨(some 5), none, .mv false (.s 42)⟩]) (
  .seq (
    .region [3, 4, 5, 6, 7, 8] [] [
      ⟨(some 44), none, .mv false (.s 0)⟩,
      ⟨(some 45), none, .call 46 [(.s 44)] []⟩,
      ⟨(some 43), none, .mv false (.s 45)⟩,
      ⟨(some 46), none, .extract 0 (.s 43)⟩,
      ⟨(some 47), none, .extract 1 (.s 43)⟩,
      ⟨(some 48), none, .extract 2 (.s 43)⟩,
      ⟨(some 6), none, .mv false (.s 46)⟩,
      ⟨(some 7), none, .mv false (.s 47)⟩,
      ⟨(some 8), none, .mv false (.s 48)⟩]) (
  .seq (
    .seq (
      .region [61] [] [
        ⟨(some 49), none, .mv false (.s 3)⟩,
        ⟨(some 50), none, .mv false (.s 6)⟩,
        ⟨(some 51), none, .bin .neq (.s 49) (.s 50)⟩,
        ⟨(some 52), none, .mv false (.s 51)⟩,
        ⟨(some 53), (some (52, false)), .mv false (.s 4)⟩,
        ⟨(some 54), (some (52, false)), .mv false (.s 7)⟩,
        ⟨(some 55), (some (52, false)), .bin .neq (.s 53) (.s 54)⟩,
        ⟨(some 56), none, .pick (.s 52) (.c (bo true)) (.s 55)⟩,
        ⟨(some 57), none, .mv false (.s 56)⟩,
        ⟨(some 58), (some (57, false)), .mv false (.s 5)⟩,
        ⟨(some 59), (some (57, false)), .mv false (.s 8)⟩,
        ⟨(some 60), (some (57, false)), .bin .neq (.s 58) (.s 59)⟩,
        ⟨(some 61), none, .pick (.s 57) (.c (bo true)) (.s 60)⟩]) (
    .cond (.s 61) (
      .seq (
        .region [2] [] [
          ⟨(some 2), none, .mv false (.c (bo false))⟩]) (
      .ret)) (
      .ghost (.keep []) .skip))) (
  f_custodylaw01_WireDecodeMatchesSpec_r1)))
def f_custodylaw01_WireDecodeMatchesSpec : AFun :=
 { n := 1, wr := [], res := [.t 2], body :=
    .seq (
      .region [] [] [
        ⟨(some 2), none, .mv false (.c (bo false))⟩]) (
    .seq (
      .seq (
        .region [35] [] [
          ⟨(some 33), none, .mv false (.s 0)⟩,
          ⟨(some 34), none, .len false (.s 33)⟩,
          ⟨(some 35), none, .bin .gtr (.s 34) (.c (i64 2000))⟩]) (
      .cond (.s 35) (
        .seq (
          .region [2] [] [
            ⟨(some 36), none, .call 63 [] []⟩,
            ⟨(some 2), none, .mv false (.s 36)⟩]) (
        .ret)) (
        .ghost (.keep []) .skip))) (
    f_custodylaw01_WireDecodeMatchesSpec_r0)) }

/-- custody custodylaw01.WireOrder = 66; calls custodylaw01.sanity = 63, wire.Int = 12 -/
def f_custodylaw01_WireOrder : AFun :=
 { n := 2, wr := [], res := [.t 4], body :=
    .seq (
      .region [] [] [
        ⟨(some 4), none, .mv false (.c (bo false))⟩]) (
    .seq (
      .region [5, 6] [] [
        ⟨(some 8), none, .mv false (.s 0)⟩,
        ⟨(some 9), none, .call 12 [(.s 8)] []⟩,
        ⟨(some 10), none, .toStr none (.s 9)⟩,
        ⟨(some 11), none, .mv false (.s 1)⟩,
        ⟨(some 12), none, .call 12 [(.s 11)] []⟩,
        ⟨(some 13), none, .toStr none (.s 12)⟩,
        ⟨(some 5), none, .mv false (.s 10)⟩,
        ⟨(some 6), none, .mv false (.s 13)⟩]) (
    .seq (
      .region [5, 6, 7] [] [
        ⟨(some 14), none, .mv false (.s 5)⟩,
        ⟨(some 15), none, .len true (.s 14)⟩,
        ⟨(some 16), none, .mv false (.s 6)⟩,
        ⟨(some 17), none, .len true (.s 16)⟩,
        ⟨(some 18), none, .min2 (.s 15) (.s 17)⟩,
        ⟨(some 7), none, .mv false (.s 18)⟩]) (
    .seq (
      .region [4] [] [
        ⟨(some 19), none, .call 63 [] []⟩,
        ⟨(some 20), none, .mv false (.s 19)⟩,
        ⟨(some 21), (some (20, true)), .mv false (.s 0)⟩,
        ⟨(some 22), (some (20, true)), .mv false (.s 1)⟩,
        ⟨(some 23), (some (20, true)), .bin .lss (.s 21) (.s 22)⟩,
        ⟨(some 24), (some (20, true)), .mv false (.s 5)⟩,
        ⟨(some 25), (some (20, true)), .mv false (.s 6)⟩,
        ⟨(some 26), (some (20, true)), .bin .lss (.s 24) (.s 25)⟩,
        ⟨(some 27), (some (20, true)), .eqb false (.s 23) (.s 26)⟩,
        ⟨(some 28), none, .pick (.s 20) (.s 27) (.c (bo false))⟩,
        ⟨(some 29), none, .mv false (.s 28)⟩,
        ⟨(some 30), (some (29, true)), .mv false (.s 0)⟩,
        ⟨(some 31), (some (29, true)), .mv false (.s 1)⟩,
        ⟨(some 32), (some (29, true)), .bin .eql (.s 30) (.s 31)⟩,
        ⟨(some 33), (some (29, true)), .mv false (.s 5)⟩,
        ⟨(some 34), (some (29, true)), .mv false (.s 6)⟩,
        ⟨(some 35), (some (29, true)), .bin .eql (.s 33) (.s 34)⟩,
        ⟨(some 36), (some (29, true)), .eqb false (.s 32) (.s 35)⟩,
        ⟨(some 37), none, .pick (.s 29) (.s 36) (.c (bo false))⟩,
        ⟨(some 38), none, .mv false (.s 37)⟩,
        ⟨(some 39), (some (38, true)), .mv false (.s 5)⟩,
        ⟨(some 40), (some (38, true)), .mv false (.s 7)⟩,
        ⟨(some 41), (some (38, true)), .slStr (.s 39) none (some (.s 40))⟩,
        ⟨(some 42), (some (38, true)), .mv false (.s 6)⟩,
        ⟨(some 43), (some (38, true)), .mv false (.s 7)⟩,
        ⟨(some 44), (some (38, true)), .slStr (.s 42) none (some (.s 43))⟩,
        ⟨(some 45), (some (38, true)), .bin .eql (.s 41) (.s 44)⟩,
        ⟨(some 46), (some (38, true)), .mv false (.s 0)⟩,
        ⟨(some 47), (some (38, true)), .mv false (.s 1)⟩,
        ⟨(some 48), (some (38, true)), .bin .eql (.s 46) (.s 47)⟩,
        ⟨(some 49), (some (38, true)), .eqb false (.s 45) (.s 48)⟩,
        ⟨(some 50), none, .pick (.s 38) (.s 49) (.c (bo false))⟩,
        ⟨(some 4), none, .mv false (.s 50)⟩]) (
    .ret)))) }

/-- custody custodylaw01.WireIntRoundTrip = 67; calls custodylaw01.sanity = 63, wire.GetInt = 45, wire.Int = 12 -/
def f_custodylaw01_WireIntRoundTrip_r0 : ACode :=
  .seq (
    .region [5] [] [
      ⟨(some 13), none, .mv false (.s 0)⟩,
      ⟨(some 14), none, .call 12 [(.s 13)] []⟩,
      ⟨(some 5), none, .mv true (.s 14)⟩]) (
  .seq (
    .region [5, 6, 7, 8] [] [
      ⟨(some 16), none, .mv false (.s 5)⟩,
      ⟨(some 17), none, .mv false (.s 5)⟩,
      ⟨(some 18), none, .len false (.s 17)⟩,
      ⟨(some 19), none, .mv false (.s 5)⟩,
      ⟨(some 20), none, .len false (.s 19)⟩,
      ⟨(some 21), none, .slSl 1 (.s 16) none (some (.s 18)) (some (.s 20))⟩,
      ⟨(some 22), none, .mv false (.s 1)⟩,
      ⟨(some 23), none, .appendC 1 1 false none none (.s 21) (.s 22)⟩,
      ⟨(some 24), none, .call 45 [(.s 23)] []⟩,
      ⟨(some 15), none, .mv false (.s 24)⟩,
      ⟨(some 25), none, .extract 0 (.s 15)⟩,
      ⟨(some 26), none, .extract 1 (.s 15)⟩,
      ⟨(some 27), none, .extract 2 (.s 15)⟩,
      ⟨(some 6), none, .mv false (.s 25)⟩,
      ⟨(some 7), none, .mv false (.s 26)⟩,
      ⟨(some 8), none, .mv false (.s 27)⟩]) (
  .seq (
    .region [4] [] [
      ⟨(some 28), none, .call 63 [] []⟩,
      ⟨(some 29), none, .mv false (.s 28)⟩,
      ⟨(some 30), (some (29, true)), .mv false (.s 6)⟩,
      ⟨(some 31), (some (29, true)), .mv false (.s 0)⟩,
      ⟨(some 32), (some (29, true)), .bin .eql (.s 30) (.s 31)⟩,
      ⟨(some 33), none, .pick (.s 29) (.s 32) (.c (bo false))⟩,
      ⟨(some 34), none, .mv false (.s 33)⟩,
      ⟨(some 35), (some (34, true)), .mv false (.s 7)⟩,
      ⟨(some 36), (some (34, true)), .mv true (.s 5)⟩,
      ⟨(some 37), (some (34, true)), .len false (.s 36)⟩,
      ⟨(some 38), (some (34, true)), .bin .eql (.s 35) (.s 37)⟩,
      ⟨(some 39), none, .pick (.s 34) (.s 38) (.c (bo false))⟩,
      ⟨(some 40), none, .mv false (.s 39)⟩,
      ⟨(some 41), (some (40, true)), .mv false (.s 8)⟩,
      ⟨(some 42), (some (40, true)), .bin .eql (.s 41) (.c (i64 0))⟩,
      ⟨(some 43), none, .pick (.s 40) (.s 42) (.c (bo false))⟩,
      ⟨(some 44), none, .mv false (.s 43)⟩,
      ⟨(some 45), (some (44, true)), .mv false (.s 7)⟩,
      ⟨(some 46), (some (44, true)), .bin .geq (.s 45) (.c (i64 1))⟩,
      ⟨(some 47), none, .pick (.s 44) (.s 46) (.c (bo false))⟩,
      ⟨(some 48), none, .mv false (.s 47)⟩,
      ⟨(some 49), (some (48, true)), .mv false (.s 7)⟩,
      ⟨(some 50), (some (48, true)), .bin .leq (.s 49) (.c (i64 9))⟩,
      ⟨(some 51), none, .pick (.s 48) (.s 50) (.c (bo false))⟩,
      ⟨(some 4), none, .mv false (.s 51)⟩]) (
  .ret)))
def f_custodylaw01_WireIntRoundTrip : AFun :=
 { n := 2, wr := [], res := [.t 4], body :=
    .seq (
      .region [] [] [
        ⟨(some 4), none, .mv false (.c (bo false))⟩]) (
    .seq (
      .seq (
        .region [11] [] [
          ⟨(some 9), none, .mv false (.s 1)⟩,
          ⟨(some 10), none, .len false (.s 9)⟩,
          ⟨(some 11), none, .bin .gtr (.s 10) (.c (i64 2000))⟩]) (
      .cond (.s 11) (
        .seq (
          .region [4] [] [
            ⟨(some 12), none, .call 63 [] []⟩,
            ⟨(some 4), none, .mv false (.s 12)⟩]) (
        .ret)) (
        .ghost (.keep []) .skip))) (
    f_custodylaw01_WireIntRoundTrip_r0)) }

/-- custody custodylaw01.WireCanonical = 69; calls custodylaw01.WireCanonical$1 = 68, custodylaw01.sanity = 63, wire.Bytes = 7, wire.Digests = 43, wire.GetBytes = 48, wire.GetDigests = 58, wire.GetInt = 45, wire.GetInts = 52, wire.GetStrings = 55, wire.Int = 12, wire.Ints = 39, wire.Strings = 41 -/
def f_custodylaw01_WireCanonical_r0 : ACode :=
  .seq (
    .region [1, 3] [] [
      ⟨(some 23), none, .mkfn 68 [] [(.s 1)]⟩,
      ⟨(some 3), none, .mv false (.s 23)⟩]) (
  .seq (
    .region [1, 3, 4, 5, 6] [.norm [1]] [
      ⟨(some 25), none, .load none (some 1) false (.s 1)⟩,
      ⟨(some 26), none, .call 45 [(.s 25)] []⟩,
      ⟨(some 24), none, .mv false (.s 26)⟩,
      ⟨(some 27), none, .extract 0 (.s 24)⟩,
      ⟨(some 28), none, .extract 1 (.s 24)⟩,
      ⟨(some 29), none, .extract 2 (.s 24)⟩,
      ⟨(some 4), none, .mv false (.s 27)⟩,
      ⟨(some 5), none, .mv false (.s 28)⟩,
      ⟨(some 6), none, .mv false (.s 29)⟩]) (
  .seq (
    .region [1, 3, 4, 5, 6, 7, 8, 9] [.norm [1]] [
      ⟨(some 31), none, .load none (some 1) false (.s 1)⟩,
      ⟨(some 32), none, .call 48 [(.s 31)] []⟩,
      ⟨(some 30), none, .mv false (.s 32)⟩,
      ⟨(some 33), none, .extract 0 (.s 30)⟩,
      ⟨(some 34), none, .extract 1 (.s 30)⟩,
      ⟨(some 35), none, .extract 2 (.s 30)⟩,
      ⟨(some 7), none, .mv false (.s 33)⟩,
      ⟨(some 8), none, .mv false (.s 34)⟩,
      ⟨(some 9), none, .mv false (.s 35)⟩]) (
  .seq (
    .region [1, 3, 4, 5, 6, 7, 8, 9, 10, 11, 12] [.norm [1]] [
      ⟨(some 37), none, .load none (some 1) false (.s 1)⟩,
      ⟨(some 38), none, .call 52 [(.s 37)] []⟩,
      ⟨(some 36), none, .mv false (.s 38)⟩,
      ⟨(some 39), none, .extract 0 (.s 36)⟩,
      ⟨(some 40), none, .extract 1 (.s 36)⟩,
      ⟨(some 41), none, .extract 2 (.s 36)⟩,
      ⟨(some 10), none, .mv true (.s 39)⟩,
      ⟨(some 11), none, .mv false (.s 40)⟩,
      ⟨(some 12), none, .mv false (.s 41)⟩]) (
  .seq (
    .region [1, 3, 4, 5, 6, 7, 8, 9, 10, 11, 12, 13, 14, 15] [.norm [1]] [
      ⟨(some 43), none, .load none (some 1) false (.s 1)⟩,
      ⟨(some 44), none, .call 55 [(.s 43)] []⟩,
      ⟨(some 42), none, .mv false (.s 44)⟩,
      ⟨(some 45), none, .extract 0 (.s 42)⟩,
      ⟨(some 46), none, .extract 1 (.s 42)⟩,
      ⟨(some 47), none, .extract 2 (.s 42)⟩,
      ⟨(some 13), none, .mv true (.s 45)⟩,
      ⟨(some 14), none, .mv false (.s 46)⟩,
      ⟨(some 15), none, .mv false (.s 47)⟩]) (
  .seq (
    .region [3, 4, 5, 6, 7, 8, 9, 10, 11, 12, 13, 14, 15, 16, 17, 18] [.norm [1]] [
      ⟨(some 49), none, .load none (some 1) false (.s 1)⟩,
      ⟨(some 50), none, .call 58 [(.s 49)] []⟩,
      ⟨(some 48), none, .mv false (.s 50)⟩,
      ⟨(some 51), none, .extract 0 (.s 48)⟩,
      ⟨(some 52), none, .extract 1 (.s 48)⟩,
      ⟨(some 53), none, .extract 2 (.s 48)⟩,
      ⟨(some 16), none, .mv true (.s 51)⟩,
      ⟨(some 17), none, .mv false (.s 52)⟩,
      ⟨(some 18), none, .mv false (.s 53)⟩]) (
  .seq (
    .region [2] [] [
      ⟨(some 54), none, .call 63 [] []⟩,
      ⟨(some 55), none, .mv false (.s 54)⟩,
      ⟨(some 56), (some (55, true)), .mv false (.s 3)⟩,
      ⟨(some 57), (some (55, true)), .mv false (.s 4)⟩,
      ⟨(some 58), (some (55, true)), .call 12 [(.s 57)] []⟩,
      ⟨(some 59), (some (55, true)), .mv false (.s 5)⟩,
      ⟨(some 60), (some (55, true)), .mv false (.s 6)⟩,
      ⟨(some 61), (some (55, true)), .callv 68 (.s 56) [(.s 58), (.s 59), (.s 60)] [1]⟩,
      ⟨(some 62), none, .pick (.s 55) (.s 61) (.c (bo false))⟩,
      ⟨(some 63), none, .mv false (.s 62)⟩,
      ⟨(some 64), (some (63, true)), .mv false (.s 3)⟩,
      ⟨(some 65), (some (63, true)), .mv false (.s 7)⟩,
      ⟨(some 66), (some (63, true)), .call 7 [(.s 65)] []⟩,
      ⟨(some 67), (some (63, true)), .mv false (.s 8)⟩,
      ⟨(some 68), (some (63, true)), .mv false (.s 9)⟩,
      ⟨(some 69), (some (63, true)), .callv 68 (.s 64) [(.s 66), (.s 67), (.s 68)] [1]⟩,
      ⟨(some 70), none, .pick (.s 63) (.s 69) (.c (bo false))⟩,
      ⟨(some 71), none, .mv false (.s 70)⟩,
      ⟨(some 72), (some (71, true)), .mv false (.s 3)⟩,
      ⟨(some 73), (some (71, true)), .mv true (.s 10)⟩,
      ⟨(some 74), (some (71, true)), .call 39 [(.s 73)] []⟩,
      ⟨(some 75), (some (71, true)), .mv false (.s 11)⟩,
      ⟨(some 76), (some (71, true)), .mv false (.s 12)⟩,
      ⟨(some 77), (some (71, true)), .callv 68 (.s 72) [(.s 74), (.s 75), (.s 76)] [1]⟩,
      ⟨(some 78), none, .pick (.s 71) (.s 77) (.c (bo false))⟩,
      ⟨(some 79), none, .mv false (.s 78)⟩,
      ⟨(some 80), (some (79, true)), .mv false (.s 3)⟩,
      ⟨(some 81), (some (79, true)), .mv true (.s 13)⟩,
      ⟨(some 82), (some (79, true)), .call 41 [(.s 81)] []⟩,
      ⟨(some 83), (some (79, true)), .mv false (.s 14)⟩,
      ⟨(some 84), (some (79, true)), .mv false (.s 15)⟩,
      ⟨(some 85), (some (79, true)), .callv 68 (.s 80) [(.s 82), (.s 83), (.s 84)] [1]⟩,
      ⟨(some 86), none, .pick (.s 79) (.s 85) (.c (bo false))⟩,
      ⟨(some 87), none, .mv false (.s 86)⟩,
      ⟨(some 88), (some (87, true)), .mv false (.s 3)⟩,
      ⟨(some 89), (some (87, true)), .mv true (.s 16)⟩,
      ⟨(some 90), (some (87, true)), .call 43 [(.s 89)] []⟩,
      ⟨(some 91), (some (87, true)), .mv false (.s 17)⟩,
      ⟨(some 92), (some (87, true)), .mv false (.s 18)⟩,
      ⟨(some 93), (some (87, true)), .callv 68 (.s 88) [(.s 90), (.s 91), (.s 92)] [1]⟩,
      ⟨(some 94), none, .pick (.s 87) (.s 93) (.c (bo false))⟩,
      ⟨(some 2), none, .mv false (.s 94)⟩]) (
  .ret)))))))
def f_custodylaw01_WireCanonical : AFun :=
 { n := 1, wr := [], res := [.t 2], body :=
    .seq (
      .region [1] [.norm [1]] [
        ⟨(some 1), none, .box 1 none false (.s 0)⟩,
        ⟨(some 2), none, .mv false (.c (bo false))⟩]) (
    .seq (
      .seq (
        .region [1, 21] [.norm [1]] [
          ⟨(some 19), none, .load none (some 1) false (.s 1)⟩,
          ⟨(some 20), none, .len false (.s 19)⟩,
          ⟨(some 21), none, .bin .gtr (.s 20) (.c (i64 2000))⟩]) (
      .cond (.s 21) (
        .seq (
          .region [2] [] [
            ⟨(some 22), none, .call 63 [] []⟩,
            ⟨(some 2), none, .mv false (.s 22)⟩]) (
        .ret)) (
        .ghost (.keep [1]) .skip))) (
    f_custodylaw01_WireCanonical_r0)) }

/-- custody custodylaw01.WireConcat = 72; calls custodylaw01.sanity = 63, custodyref01.SameInts = 54, wire.Bytes = 7, wire.GetBytes = 48, wire.GetInts = 52, wire.Ints = 39 -/
def f_custodylaw01_WireConcat_r1 : ACode :=
  .seq (
    .region [5, 6, 7, 9, 10, 11] [] [
      ⟨(some 43), none, .mv false (.s 5)⟩,
      ⟨(some 44), none, .mv false (.s 7)⟩,
      ⟨(some 45), none, .slSl 1 (.s 43) (some (.s 44)) none none⟩,
      ⟨(some 46), none, .call 52 [(.s 45)] []⟩,
      ⟨(some 42), none, .mv false (.s 46)⟩,
      ⟨(some 47), none, .extract 0 (.s 42)⟩,
      ⟨(some 48), none, .extract 1 (.s 42)⟩,
      ⟨(some 49), none, .extract 2 (.s 42)⟩,
      ⟨(some 9), none, .mv true (.s 47)⟩,
      ⟨(some 10), none, .mv false (.s 48)⟩,
      ⟨(some 11), none, .mv false (.s 49)⟩]) (
  .seq (
    .region [4] [] [
      ⟨(some 50), none, .call 63 [] []⟩,
      ⟨(some 51), none, .mv false (.s 50)⟩,
      ⟨(some 52), (some (51, true)), .mv false (.s 6)⟩,
      ⟨(some 53), (some (51, true)), .mv false (.s 0)⟩,
      ⟨(some 54), (some (51, true)), .bin .eql (.s 52) (.s 53)⟩,
      ⟨(some 55), none, .pick (.s 51) (.s 54) (.c (bo false))⟩,
      ⟨(some 56), none, .mv false (.s 55)⟩,
      ⟨(some 57), (some (56, true)), .mv true (.s 9)⟩,
      ⟨(some 58), (some (56, true)), .mv false (.s 1)⟩,
      ⟨(some 59), (some (56, true)), .call 54 [(.s 57), (.s 58)] []⟩,
      ⟨(some 60), none, .pick (.s 56) (.s 59) (.c (bo false))⟩,
      ⟨(some 61), none, .mv false (.s 60)⟩,
      ⟨(some 62), (some (61, true)), .mv false (.s 11)⟩,
      ⟨(some 63), (some (61, true)), .bin .eql (.s 62) (.c (i64 0))⟩,
      ⟨(some 64), none, .pick (.s 61) (.s 63) (.c (bo false))⟩,
      ⟨(some 65), none, .mv false (.s 64)⟩,
      ⟨(some 66), (some (65, true)), .mv false (.s 7)⟩,
      ⟨(some 67), (some (65, true)), .mv false (.s 10)⟩,
      ⟨(some 68), (some (65, true)), .bin .add (.s 66) (.s 67)⟩,
      ⟨(some 69), (some (65, true)), .mv true (.s 5)⟩,
      ⟨(some 70), (some (65, true)), .len false (.s 69)⟩,
      ⟨(some 71), (some (65, true)), .bin .eql (.s 68) (.s 70)⟩,
      ⟨(some 72), none, .pick (.s 65) (.s 71) (.c (bo false))⟩,
      ⟨(some 4), none, .mv false (.s 72)⟩]) (
  .ret))
def f_custodylaw01_WireConcat_r0 : ACode :=
  .seq (
    .region [5] [] [
      ⟨(some 19), none, .mv false (.s 0)⟩,
      ⟨(some 20), none, .call 7 [(.s 19)] []⟩,
      ⟨(some 21), none, .mv false (.s 1)⟩,
      ⟨(some 22), none, .call 39 [(.s 21)] []⟩,
      ⟨(some 23), none, .append 1 1 false (some false) none 20 (.s 22)⟩,
      ⟨(some 5), none, .mv true (.s 23)⟩]) (
  .seq (
    .region [5, 6, 7, 8] [] [
      ⟨(some 25), none, .mv false (.s 5)⟩,
      ⟨(some 26), none, .call 48 [(.s 25)] []⟩,
      ⟨(some 24), none, .mv false (.s 26)⟩,
      ⟨(some 27), none, .extract 0 (.s 24)⟩,
      ⟨(some 28), none, .extract 1 (.s 24)⟩,
      ⟨(some 29), none, .extract 2 (.s 24)⟩,
      ⟨(some 6), none, .mv false (.s 27)⟩,
      ⟨(some 7), none, .mv false (.s 28)⟩,
      ⟨(some 8), none, .mv false (.s 29)⟩]) (
  .seq (
    .seq (
      .region [5, 6, 7, 41] [] [
        ⟨(some 30), none, .mv false (.s 8)⟩,
        ⟨(some 31), none, .bin .neq (.s 30) (.c (i64 0))⟩,
        ⟨(some 32), none, .mv false (.s 31)⟩,
        ⟨(some 33), (some (32, false)), .mv false (.s 7)⟩,
        ⟨(some 34), (some (32, false)), .bin .lss (.s 33) (.c (i64 0))⟩,
        ⟨(some 35), none, .pick (.s 32) (.c (bo true)) (.s 34)⟩,
        ⟨(some 36), none, .mv false (.s 35)⟩,
        ⟨(some 37), (some (36, false)), .mv false (.s 7)⟩,
        ⟨(some 38), (some (36, false)), .mv false (.s 5)⟩,
        ⟨(some 39), (some (36, false)), .len false (.s 38)⟩,
        ⟨(some 40), (some (36, false)), .bin .gtr (.s 37) (.s 39)⟩,
        ⟨(some 41), none, .pick (.s 36) (.c (bo true)) (.s 40)⟩]) (
    .cond (.s 41) (
      .seq (
        .region [4] [] [
          ⟨(some 4), none, .mv false (.c (bo false))⟩]) (
      .ret)) (
      .ghost (.keep [5, 6, 7]) .skip))) (
  f_custodylaw01_WireConcat_r1)))
def f_custodylaw01_WireConcat : AFun :=
 { n := 2, wr := [], res := [.t 4], body :=
    .seq (
      .region [] [] [
        ⟨(some 4), none, .mv false (.c (bo false))⟩]) (
    .seq (
      .seq (
        .region [17] [] [
          ⟨(some 12), none, .mv false (.s 0)⟩,
          ⟨(some 13), none, .len true (.s 12)⟩,
          ⟨(some 14), none, .mv false (.s 1)⟩,
          ⟨(some 15), none, .len false (.s 14)⟩,
          ⟨(some 16), none, .bin .add (.s 13) (.s 15)⟩,
          ⟨(some 17), none, .bin .gtr (.s 16) (.c (i64 2000))⟩]) (
      .cond (.s 17) (
        .seq (
          .region [4] [] [
            ⟨(some 18), none, .call 63 [] []⟩,
            ⟨(some 4), none, .mv false (.s 18)⟩]) (
        .ret)) (
        .ghost (.keep []) .skip))) (
    f_custodylaw01_WireConcat_r0)) }

/-- custody custodylaw01.few = 62; calls  -/
def f_custodylaw01_few_r0 : ACode :=
  .seq (
    .block 1 (
      .seq (
        .region [3, 5, 8, 9, 10] [] [
          ⟨(some 12), none, .idxSl 1 (.s 8) (.s 10)⟩,
          ⟨(some 13), none, .load none none false (.s 12)⟩,
          ⟨(some 5), none, .mv false (.s 13)⟩]) (
      .region [3, 8, 9, 10] [] [
        ⟨(some 14), none, .mv false (.s 3)⟩,
        ⟨(some 15), none, .mv false (.s 5)⟩,
        ⟨(some 16), none, .len true (.s 15)⟩,
        ⟨(some 17), none, .bin .add (.s 14) (.s 16)⟩,
        ⟨(some 3), none, .mv false (.s 17)⟩]))) (
  .region [3, 8, 9, 10] [] [
    ⟨(some 18), none, .bin .add (.s 10) (.c (i64 1))⟩,
    ⟨(some 10), none, .mv false (.s 18)⟩])
def f_custodylaw01_few_l0 : ACode :=
  .seq (
    .region [3, 8, 9, 10, 11] [] [
      ⟨(some 11), none, .bin .lss (.s 10) (.s 9)⟩]) (
  .seq (
    .cond (.s 11) (
      .ghost (.keep [3, 8, 9, 10]) .skip) (
      .ghost (.keep [3]) (.exit 0))) (
  f_custodylaw01_few_r0))
def f_custodylaw01_few_r1 : ACode :=
  .seq (
    .region [2] [] [
      ⟨(some 19), none, .mv false (.s 3)⟩,
      ⟨(some 20), none, .bin .leq (.s 19) (.c (i64 2000))⟩,
      ⟨(some 2), none, .mv false (.s 20)⟩]) (
  .ret)
def f_custodylaw01_few : AFun :=
 { n := 1, wr := [], res := [.t 2], body :=
    .seq (
      .region [] [] [
        ⟨(some 2), none, .mv false (.c (bo false))⟩]) (
    .seq (
      .region [3] [] [
        ⟨(some 6), none, .mv false (.s 0)⟩,
        ⟨(some 7), none, .len false (.s 6)⟩,
        ⟨(some 3), none, .mv false (.s 7)⟩]) (
    .seq (
      .seq (
        .region [3, 8, 9, 10] [] [
          ⟨(some 8), none, .mv false (.s 0)⟩,
          ⟨(some 9), none, .len false (.s 8)⟩,
          ⟨(some 10), none, .mv false (.c (i64 0))⟩]) (
      .block 0 (
        .loop f_custodylaw01_few_l0))) (
    f_custodylaw01_few_r1))) }

/-- custody custodylaw01.sanity = 63; calls custodyref01.Same = 38, custodyref01.SameDigests = 60, custodyref01.SameInts = 54, custodyref01.SameTexts = 57, wire.Bytes = 7, wire.Digests = 43, wire.GetBytes = 48, wire.GetDigests = 58, wire.GetInt = 45, wire.GetInts = 52, wire.GetStrings = 55, wire.Int = 12, wire.Ints = 39, wire.Strings = 41 -/
def f_custodylaw01_sanity : AFun :=
 { n := 0, wr := [], res := [.t 0], body :=
    .seq (
      .region [] [] [
        ⟨(some 0), none, .mv false (.c (bo false))⟩]) (
    .seq (
      .region [1, 2, 3] [] [
        ⟨(some 25), none, .buildSl 1 4 [u8 0, u8 0, u8 0, u8 0] [(0, 1, (.c (u8 130))), (1, 1, (.c (u8 1))), (2, 1, (.c (u8 0))), (3, 1, (.c (u8 9)))]⟩,
        ⟨(some 26), none, .call 45 [(.s 25)] []⟩,
        ⟨(some 24), none, .mv false (.s 26)⟩,
        ⟨(some 27), none, .extract 0 (.s 24)⟩,
        ⟨(some 28), none, .extract 1 (.s 24)⟩,
        ⟨(some 29), none, .extract 2 (.s 24)⟩,
        ⟨(some 1), none, .mv false (.s 27)⟩,
        ⟨(some 2), none, .mv false (.s 28)⟩,
        ⟨(some 3), none, .mv false (.s 29)⟩]) (
    .seq (
      .region [1, 2, 3, 6] [] [
        ⟨(some 31), none, .buildSl 1 2 [u8 0, u8 0] [(0, 1, (.c (u8 130))), (1, 1, (.c (u8 1)))]⟩,
        ⟨(some 32), none, .call 45 [(.s 31)] []⟩,
        ⟨(some 30), none, .mv false (.s 32)⟩,
        ⟨(some 33), none, .extract 0 (.s 30)⟩,
        ⟨(some 34), none, .extract 1 (.s 30)⟩,
        ⟨(some 35), none, .extract 2 (.s 30)⟩,
        ⟨(some 4), none, .mv false (.s 33)⟩,
        ⟨(some 5), none, .mv false (.s 34)⟩,
        ⟨(some 6), none, .mv false (.s 35)⟩]) (
    .seq (
      .region [1, 2, 3, 6, 9] [] [
        ⟨(some 37), none, .buildSl 1 2 [u8 0, u8 0] [(0, 1, (.c (u8 129))), (1, 1, (.c (u8 0)))]⟩,
        ⟨(some 38), none, .call 45 [(.s 37)] []⟩,
        ⟨(some 36), none, .mv false (.s 38)⟩,
        ⟨(some 39), none, .extract 0 (.s 36)⟩,
        ⟨(some 40), none, .extract 1 (.s 36)⟩,
        ⟨(some 41), none, .extract 2 (.s 36)⟩,
        ⟨(some 7), none, .mv false (.s 39)⟩,
        ⟨(some 8), none, .mv false (.s 40)⟩,
        ⟨(some 9), none, .mv false (.s 41)⟩]) (
    .seq (
      .region [1, 2, 3, 6, 9, 10, 11, 12] [] [
        ⟨(some 43), none, .buildSl 1 5 [u8 0, u8 0, u8 0, u8 0, u8 0] [(0, 1, (.c (u8 129))), (1, 1, (.c (u8 2))), (2, 1, (.c (u8 97))), (3, 1, (.c (u8 98))), (4, 1, (.c (u8 7)))]⟩,
        ⟨(some 44), none, .call 48 [(.s 43)] []⟩,
        ⟨(some 42), none, .mv false (.s 44)⟩,
        ⟨(some 45), none, .extract 0 (.s 42)⟩,
        ⟨(some 46), none, .extract 1 (.s 42)⟩,
        ⟨(some 47), none, .extract 2 (.s 42)⟩,
        ⟨(some 10), none, .mv false (.s 45)⟩,
        ⟨(some 11), none, .mv false (.s 46)⟩,
        ⟨(some 12), none, .mv false (.s 47)⟩]) (
    .seq (
      .region [1, 2, 3, 6, 9, 10, 11, 12, 13, 14, 15] [] [
        ⟨(some 49), none, .buildSl 1 5 [u8 0, u8 0, u8 0, u8 0, u8 0] [(0, 1, (.c (u8 129))), (1, 1, (.c (u8 2))), (2, 1, (.c (u8 129))), (3, 1, (.c (u8 1))), (4, 1, (.c (u8 127)))]⟩,
        ⟨(some 50), none, .call 52 [(.s 49)] []⟩,
        ⟨(some 48), none, .mv false (.s 50)⟩,
        ⟨(some 51), none, .extract 0 (.s 48)⟩,
        ⟨(some 52), none, .extract 1 (.s 48)⟩,
        ⟨(some 53), none, .extract 2 (.s 48)⟩,
        ⟨(some 13), none, .mv true (.s 51)⟩,
        ⟨(some 14), none, .mv false (.s 52)⟩,
        ⟨(some 15), none, .mv false (.s 53)⟩]) (
    .seq (
      .region [1, 2, 3, 6, 9, 10, 11, 12, 13, 14, 15, 16] [.norm [16]] [
        ⟨(some 54), none, .build (bys (zeros 16)) [(0, 1, (.c (u8 1))), (1, 1, (.c (u8 2)))]⟩,
        ⟨(some 16), none, .alloc 16 (bys (zeros 16))⟩,
        ⟨none, none, .store (some 16) 16 false (.s 16) (.s 54)⟩]) (
    .seq (
      .region [1, 2, 3, 6, 9, 10, 11, 12, 13, 14, 15, 16, 17, 18, 19] [.norm [16]] [
        ⟨(some 56), none, .load (some 16) (some 16) false (.s 16)⟩,
        ⟨(some 57), none, .buildSl 16 1 (bys (zeros 16)) [(0, 16, (.s 56))]⟩,
        ⟨(some 58), none, .call 43 [(.s 57)] []⟩,
        ⟨(some 59), none, .call 58 [(.s 58)] []⟩,
        ⟨(some 55), none, .mv false (.s 59)⟩,
        ⟨(some 60), none, .extract 0 (.s 55)⟩,
        ⟨(some 61), none, .extract 1 (.s 55)⟩,
        ⟨(some 62), none, .extract 2 (.s 55)⟩,
        ⟨(some 17), none, .mv true (.s 60)⟩,
        ⟨(some 18), none, .mv false (.s 61)⟩,
        ⟨(some 19), none, .mv false (.s 62)⟩]) (
    .seq (
      .region [1, 2, 3, 6, 9, 10, 11, 12, 13, 14, 15, 16, 17, 18, 19, 20, 21, 22] [] [
        ⟨(some 64), none, .buildSl 1 7 [u8 0, u8 0, u8 0, u8 0, u8 0, u8 0, u8 0] [(0, 1, (.c (u8 129))), (1, 1, (.c (u8 2))), (2, 1, (.c (u8 128))), (3, 1, (.c (u8 129))), (4, 1, (.c (u8 1))), (5, 1, (.c (u8 97))), (6, 1, (.c (u8 5)))]⟩,
        ⟨(some 65), none, .call 55 [(.s 64)] []⟩,
        ⟨(some 63), none, .mv false (.s 65)⟩,
        ⟨(some 66), none, .extract 0 (.s 63)⟩,
        ⟨(some 67), none, .extract 1 (.s 63)⟩,
        ⟨(some 68), none, .extract 2 (.s 63)⟩,
        ⟨(some 20), none, .mv true (.s 66)⟩,
        ⟨(some 21), none, .mv false (.s 67)⟩,
        ⟨(some 22), none, .mv false (.s 68)⟩]) (
    .seq (
      .region [1, 2, 3, 6, 9, 10, 11, 12, 13, 14, 15, 16, 17, 18, 19, 23] [] [
        ⟨(some 69), none, .mv true (.s 20)⟩,
        ⟨(some 70), none, .buildSl 1 2 [st [], st []] [(0, 1, (.c (st []))), (1, 1, (.c (st [97])))]⟩,
        ⟨(some 71), none, .call 57 [(.s 69), (.s 70)] []⟩,
        ⟨(some 72), none, .mv false (.s 71)⟩,
        ⟨(some 73), (some (72, true)), .mv false (.s 21)⟩,
        ⟨(some 74), (some (72, true)), .bin .eql (.s 73) (.c (i64 6))⟩,
        ⟨(some 75), none, .pick (.s 72) (.s 74) (.c (bo false))⟩,
        ⟨(some 76), none, .mv false (.s 75)⟩,
        ⟨(some 77), (some (76, true)), .mv false (.s 22)⟩,
        ⟨(some 78), (some (76, true)), .bin .eql (.s 77) (.c (i64 0))⟩,
        ⟨(some 79), none, .pick (.s 76) (.s 78) (.c (bo false))⟩,
        ⟨(some 80), none, .mv false (.s 79)⟩,
        ⟨(some 81), (some (80, true)), .buildSl 1 2 [st [], st []] [(0, 1, (.c (st []))), (1, 1, (.c (st [97])))]⟩,
        ⟨(some 82), (some (80, true)), .call 41 [(.s 81)] []⟩,
        ⟨(some 83), (some (80, true)), .buildSl 1 6 [u8 0, u8 0, u8 0, u8 0, u8 0, u8 0] [(0, 1, (.c (u8 129))), (1, 1, (.c (u8 2))), (2, 1, (.c (u8 128))), (3, 1, (.c (u8 129))), (4, 1, (.c (u8 1))), (5, 1, (.c (u8 97)))]⟩,
        ⟨(some 84), (some (80, true)), .call 38 [(.s 82), (.s 83)] []⟩,
        ⟨(some 85), none, .pick (.s 80) (.s 84) (.c (bo false))⟩,
        ⟨(some 23), none, .mv false (.s 85)⟩]) (
    .seq (
      .region [0] [.norm [16]] [
        ⟨(some 86), none, .mv false (.s 23)⟩,
        ⟨(some 87), none, .mv false (.s 86)⟩,
        ⟨(some 88), (some (87, true)), .call 12 [(.c (i64 (-257)))] []⟩,
        ⟨(some 89), (some (87, true)), .buildSl 1 3 [u8 0, u8 0, u8 0] [(0, 1, (.c (u8 125))), (1, 1, (.c (u8 254))), (2, 1, (.c (u8 255)))]⟩,
        ⟨(some 90), (some (87, true)), .call 38 [(.s 88), (.s 89)] []⟩,
        ⟨(some 91), none, .pick (.s 87) (.s 90) (.c (bo false))⟩,
        ⟨(some 92), none, .mv false (.s 91)⟩,
        ⟨(some 93), (some (92, true)), .mv false (.s 1)⟩,
        ⟨(some 94), (some (92, true)), .bin .eql (.s 93) (.c (i64 256))⟩,
        ⟨(some 95), none, .pick (.s 92) (.s 94) (.c (bo false))⟩,
        ⟨(some 96), none, .mv false (.s 95)⟩,
        ⟨(some 97), (some (96, true)), .mv false (.s 2)⟩,
        ⟨(some 98), (some (96, true)), .bin .eql (.s 97) (.c (i64 3))⟩,
        ⟨(some 99), none, .pick (.s 96) (.s 98) (.c (bo false))⟩,
        ⟨(some 100), none, .mv false (.s 99)⟩,
        ⟨(some 101), (some (100, true)), .mv false (.s 3)⟩,
        ⟨(some 102), (some (100, true)), .bin .eql (.s 101) (.c (i64 0))⟩,
        ⟨(some 103), none, .pick (.s 100) (.s 102) (.c (bo false))⟩,
        ⟨(some 104), none, .mv false (.s 103)⟩,
        ⟨(some 105), (some (104, true)), .mv false (.s 6)⟩,
        ⟨(some 106), (some (104, true)), .bin .eql (.s 105) (.c (i64 5))⟩,
        ⟨(some 107), none, .pick (.s 104) (.s 106) (.c (bo false))⟩,
        ⟨(some 108), none, .mv false (.s 107)⟩,
        ⟨(some 109), (some (108, true)), .mv false (.s 9)⟩,
        ⟨(some 110), (some (108, true)), .bin .eql (.s 109) (.c (i64 6))⟩,
        ⟨(some 111), none, .pick (.s 108) (.s 110) (.c (bo false))⟩,
        ⟨(some 112), none, .mv false (.s 111)⟩,
        ⟨(some 113), (some (112, true)), .mv false (.s 10)⟩,
        ⟨(some 114), (some (112, true)), .bin .eql (.s 113) (.c (st [97, 98]))⟩,
        ⟨(some 115), none, .pick (.s 112) (.s 114) (.c (bo false))⟩,
        ⟨(some 116), none, .mv false (.s 115)⟩,
        ⟨(some 117), (some (116, true)), .mv false (.s 11)⟩,
        ⟨(some 118), (some (116, true)), .bin .eql (.s 117) (.c (i64 4))⟩,
        ⟨(some 119), none, .pick (.s 116) (.s 118) (.c (bo false))⟩,
        ⟨(some 120), none, .mv false (.s 119)⟩,
        ⟨(some 121), (some (120, true)), .mv false (.s 12)⟩,
        ⟨(some 122), (some (120, true)), .bin .eql (.s 121) (.c (i64 0))⟩,
        ⟨(some 123), none, .pick (.s 120) (.s 122) (.c (bo false))⟩,
        ⟨(some 124), none, .mv false (.s 123)⟩,
        ⟨(some 125), (some (124, true)), .mv true (.s 13)⟩,
        ⟨(some 126), (some (124, true)), .buildSl 1 2 [i64 0, i64 0] [(0, 1, (.c (i64 1))), (1, 1, (.c (i64 (-1))))]⟩,
        ⟨(some 127), (some (124, true)), .call 54 [(.s 125), (.s 126)] []⟩,
        ⟨(some 128), none, .pick (.s 124) (.s 127) (.c (bo false))⟩,
        ⟨(some 129), none, .mv false (.s 128)⟩,
        ⟨(some 130), (some (129, true)), .mv false (.s 14)⟩,
        ⟨(some 131), (some (129, true)), .bin .eql (.s 130) (.c (i64 5))⟩,
        ⟨(some 132), none, .pick (.s 129) (.s 131) (.c (bo false))⟩,
        ⟨(some 133), none, .mv false (.s 132)⟩,
        ⟨(some 134), (some (133, true)), .mv false (.s 15)⟩,
        ⟨(some 135), (some (133, true)), .bin .eql (.s 134) (.c (i64 0))⟩,
        ⟨(some 136), none, .pick (.s 133) (.s 135) (.c (bo false))⟩,
        ⟨(some 137), none, .mv false (.s 136)⟩,
        ⟨(some 138), (some (137, true)), .call 7 [(.c (st [97, 98]))] []⟩,
        ⟨(some 139), (some (137, true)), .buildSl 1 4 [u8 0, u8 0, u8 0, u8 0] [(0, 1, (.c (u8 129))), (1, 1, (.c (u8 2))), (2, 1, (.c (u8 97))), (3, 1, (.c (u8 98)))]⟩,
        ⟨(some 140), (some (137, true)), .call 38 [(.s 138), (.s 139)] []⟩,
        ⟨(some 141), none, .pick (.s 137) (.s 140) (.c (bo false))⟩,
        ⟨(some 142), none, .mv false (.s 141)⟩,
        ⟨(some 143), (some (142, true)), .buildSl 1 2 [i64 0, i64 0] [(0, 1, (.c (i64 1))), (1, 1, (.c (i64 (-1))))]⟩,
        ⟨(some 144), (some (142, true)), .call 39 [(.s 143)] []⟩,
        ⟨(some 145), (some (142, true)), .buildSl 1 5 [u8 0, u8 0, u8 0, u8 0, u8 0] [(0, 1, (.c (u8 129))), (1, 1, (.c (u8 2))), (2, 1, (.c (u8 129))), (3, 1, (.c (u8 1))), (4, 1, (.c (u8 127)))]⟩,
        ⟨(some 146), (some (142, true)), .call 38 [(.s 144), (.s 145)] []⟩,
        ⟨(some 147), none, .pick (.s 142) (.s 146) (.c (bo false))⟩,
        ⟨(some 148), none, .mv false (.s 147)⟩,
        ⟨(some 149), (some (148, true)), .mv true (.s 17)⟩,
        ⟨(some 150), (some (148, true)), .load (some 16) (some 16) false (.s 16)⟩,
        ⟨(some 151), (some (148, true)), .buildSl 16 1 (bys (zeros 16)) [(0, 16, (.s 150))]⟩,
        ⟨(some 152), (some (148, true)), .call 60 [(.s 149), (.s 151)] []⟩,
        ⟨(some 153), none, .pick (.s 148) (.s 152) (.c (bo false))⟩,
        ⟨(some 154), none, .mv false (.s 153)⟩,
        ⟨(some 155), (some (154, true)), .mv false (.s 18)⟩,
        ⟨(some 156), (some (154, true)), .bin .eql (.s 155) (.c (i64 18))⟩,
        ⟨(some 157), none, .pick (.s 154) (.s 156) (.c (bo false))⟩,
        ⟨(some 158), none, .mv false (.s 157)⟩,
        ⟨(some 159), (some (158, true)), .mv false (.s 19)⟩,
        ⟨(some 160), (some (158, true)), .bin .eql (.s 159) (.c (i64 0))⟩,
        ⟨(some 161), none, .pick (.s 158) (.s 160) (.c (bo false))⟩,
        ⟨(some 0), none, .mv false (.s 161)⟩]) (
    .ret))))))))))) }

/-- custody custodylaw01.WireCanonical$1 = 68; calls custodyref01.Same = 38 -/
def f_custodylaw01_WireCanonical_1 : AFun :=
 { n := 4, wr := [], res := [.t 7], body :=
    .seq (
      .region [] [] [
        ⟨(some 7), none, .mv false (.c (bo false))⟩]) (
    .seq (
      .region [7] [] [
        ⟨(some 8), none, .mv false (.s 2)⟩,
        ⟨(some 9), none, .bin .neq (.s 8) (.c (i64 0))⟩,
        ⟨(some 10), none, .mv false (.s 9)⟩,
        ⟨(some 11), (some (10, false)), .mv false (.s 1)⟩,
        ⟨(some 12), (some (10, false)), .bin .geq (.s 11) (.c (i64 0))⟩,
        ⟨(some 13), (some (10, false)), .mv false (.s 12)⟩,
        ⟨(some 14), (some (13, true)), .mv false (.s 1)⟩,
        ⟨(some 15), (some (13, true)), .load none none false (.s 3)⟩,
        ⟨(some 16), (some (13, true)), .len false (.s 15)⟩,
        ⟨(some 17), (some (13, true)), .bin .leq (.s 14) (.s 16)⟩,
        ⟨(some 18), (some (10, false)), .pick (.s 13) (.s 17) (.c (bo false))⟩,
        ⟨(some 19), (some (10, false)), .mv false (.s 18)⟩,
        ⟨(some 20), (some (19, true)), .mv false (.s 0)⟩,
        ⟨(some 21), (some (19, true)), .load none none false (.s 3)⟩,
        ⟨(some 22), (some (19, true)), .mv false (.s 1)⟩,
        ⟨(some 23), (some (19, true)), .load none none false (.s 3)⟩,
        ⟨(some 24), (some (19, true)), .len false (.s 23)⟩,
        ⟨(some 25), (some (19, true)), .min2 (.s 22) (.s 24)⟩,
        ⟨(some 26), (some (19, true)), .max2 (.c (i64 0)) (.s 25)⟩,
        ⟨(some 27), (some (19, true)), .slSl 1 (.s 21) none (some (.s 26)) none⟩,
        ⟨(some 28), (some (19, true)), .call 38 [(.s 20), (.s 27)] []⟩,
        ⟨(some 29), (some (10, false)), .pick (.s 19) (.s 28) (.c (bo false))⟩,
        ⟨(some 30), none, .pick (.s 10) (.c (bo true)) (.s 29)⟩,
        ⟨(some 7), none, .mv false (.s 30)⟩]) (
    .ret)) }

end Go.Abs
end

section
namespace Go.Abs
theorem digs_lt {n : Nat} (h0 : n ≠ 0) (h1 : n < 256) : digs n = [UInt8.ofNat n] := by rw [digs_pos h0, Nat.div_eq_of_lt h1, digs_zero]
theorem dig1 : digs 1 = [1] := digs_lt (by decide) (by decide)
theorem dig2 : digs 2 = [2] := digs_lt (by decide) (by decide)
theorem dig256 : digs 256 = [0, 1] := by rw [digs_pos (by decide), show 256 / 256 = 1 from rfl, dig1]; rfl
theorem enc0 : encI 0 = [128] := by simp [encI, mag, flp, digs_zero]
theorem enc1 : encI 1 = [129, 1] := by simp [encI, mag, flp, dig1]
theorem enc2 : encI 2 = [129, 2] := by simp [encI, mag, flp, dig2]
theorem encm1 : encI (-1) = [127] := by simp [encI, mag, flp, digs_zero]
theorem encm257 : encI (-257) = [125, 254, 255] := by simp [encI, mag, flp, dig256]
def exD : List UInt8 := [1, 2, 0, 0, 0, 0, 0, 0, 0, 0, 0, 0, 0, 0, 0, 0]
theorem x1 : getI [130, 1, 0, 9] = (256, 3, 0) := by decide
theorem x2 : getI [130, 1] = (0, 0, 5) := by decide
theorem x3 : getI [129, 0] = (0, 0, 6) := by decide
theorem x4 : getS [129, 2, 97, 98, 7] = ([97, 98], 4, 0) := by decide
theorem x5 : getLs getI 1 [129, 2, 129, 1, 127] = ([1, -1], 5, 0) := by decide
theorem x6 : getD16 (encDs 1 exD) = (exD, 18, 0) := by rw [encDs, show ((1 : Nat) : Int) = 1 from rfl, enc1]; decide
theorem x7 : getLs getS 1 [129, 2, 128, 129, 1, 97, 5] = ([[], [97]], 6, 0) := by decide
theorem x8 : encSs [[], [97]] = [129, 2, 128, 129, 1, 97] := by simp [encSs, encS, enc0, enc1, enc2]
theorem x9 : encS [97, 98] = [129, 2, 97, 98] := by simp [encS, enc2]
theorem x10 : encIs [1, -1] = [129, 2, 129, 1, 127] := by simp [encIs, enc1, enc2, encm1]
theorem f1 (x : UInt8) : [u8 x] = bys [x] := rfl
theorem f2 (x : UInt8) (l : List UInt8) : u8 x :: bys l = bys (x :: l) := rfl
theorem f3 (x : List UInt8) : [st x] = sts [x] := rfl
theorem f4 (x : List UInt8) (l : List (List UInt8)) : st x :: sts l = sts (x :: l) := rfl
theorem f5 (x : Int) : [i64 x] = ints [x] := rfl
theorem f6 (x : Int) (l : List Int) : i64 x :: ints l = ints (x :: l) := rfl
theorem splice_bb (l m : List UInt8) (n : Nat) : splice (bys l) n (bys m) = bys (l.take n ++ m ++ l.drop (n + m.length)) := by simp [splice, bys_append]
theorem splice_ss (l m : List (List UInt8)) (n : Nat) : splice (sts l) n (sts m) = sts (l.take n ++ m ++ l.drop (n + m.length)) := by simp [splice, sts_append]
theorem splice_ii (l m : List Int) (n : Nat) : splice (ints l) n (ints m) = ints (l.take n ++ m ++ l.drop (n + m.length)) := by simp [splice, ← ints_app]
def lawIT : Contract := trueC fun ds => ∃ n nl tail, isI64 n ∧ ds = [i64 n, .sl .plain nl tail.length (bys tail)]
def lawII : Contract := trueC fun ds => ∃ m n, isI64 m ∧ isI64 n ∧ ds = [i64 m, i64 n]
def lawB : Contract := trueC fun ds => ∃ (nl : Option Bool) (b : List UInt8), ds = [.sl .plain nl b.length (bys b)]
theorem encI_ne (n : Int) : (encI n).length ≠ 0 := by simp [encI]
theorem getL_len {α : Type} (f : List UInt8 → α × Nat × Nat) : ∀ (n : Nat) (b : List UInt8) (i : Nat), (getL f n b i).1.length ≤ n
  | 0, b, i => by simp [getL]
  | n + 1, b, i => by
    have := getL_len f n b (i + (f (b.drop i)).2.1)
    rw [getL]
    split
    · simp
    · split
      · simp
      · simp only [List.length_cons]; omega
theorem getLs_len {α : Type} (f : List UInt8 → α × Nat × Nat) (b : List UInt8) : (getLs f 1 b).1.length ≤ b.length := by
  unfold getLs
  rcases cnt_cases b 1 (by decide) with (hE | hE) | ⟨hE, n, u, hg, hu, hn, hu9⟩
  · rw [hE]; simp
  · rw [hE]; simp
  · rw [if_pos hE, hg]
    have := getL_len f n b u
    simp only [Int.toNat_natCast]
    omega
theorem getD16_len (b : List UInt8) : (getD16 b).1.length = (getD16 b).1.length / 16 * 16 ∧ (getD16 b).1.length ≤ b.length := by
  unfold getD16
  rcases cnt_cases b 16 (by decide) with (hE | hE) | ⟨hE, n, u, hg, hu, hn, hu9⟩
  · rw [hE]; simp
  · rw [hE]; simp
  · rw [if_pos hE, hg]
    have : ((b.drop u).take (n * 16)).length = n * 16 := by rw [List.length_take, List.length_drop, Nat.min_eq_left hn]
    simp only [Int.toNat_natCast, this]
    omega
end Go.Abs
end

section
namespace Go.Abs
theorem bl_irr : ∀ a : List UInt8, Op.bytesLess a a = false
  | [] => rfl
  | x :: a => by
    have h : ¬ (x < x) := by rw [UInt8.lt_iff_toNat_lt]; omega
    simp [Op.bytesLess, bl_irr a, h]
theorem bl_asym : ∀ {a b : List UInt8}, Op.bytesLess a b = true → Op.bytesLess b a = false
  | [], [], h => by simp [Op.bytesLess] at h
  | _ :: _, [], h => by simp [Op.bytesLess] at h
  | [], _ :: _, _ => by simp [Op.bytesLess]
  | x :: a, y :: b, h => by
    simp only [Op.bytesLess, Bool.or_eq_true, Bool.and_eq_true, decide_eq_true_eq, beq_iff_eq] at h
    simp only [Op.bytesLess, Bool.or_eq_false_iff, Bool.and_eq_false_iff, decide_eq_false_iff_not]
    rcases h with h | ⟨rfl, h⟩
    · have h' := UInt8.lt_iff_toNat_lt.1 h
      refine ⟨by rw [UInt8.lt_iff_toNat_lt]; omega, .inl ?_⟩
      rw [beq_eq_false_iff_ne]
      intro e; subst e; omega
    · exact ⟨by rw [UInt8.lt_iff_toNat_lt]; omega, .inr (bl_asym h)⟩
theorem valD_append : ∀ a b : List UInt8, valD (a ++ b) = valD a + 256 ^ a.length * valD b
  | [], b => by simp [valD]
  | x :: a, b => by
    rw [List.cons_append, valD, valD_append a b, valD, List.length_cons, Nat.pow_succ, Nat.mul_add, Nat.mul_comm (256 ^ a.length) 256, Nat.mul_assoc]
    omega
theorem valB_cons (x : UInt8) (l : List UInt8) : valB (x :: l) = 256 ^ l.length * x.toNat + valB l := by
  rw [valB_eq, List.reverse_cons, valD_append, ← valB_eq, List.length_reverse]
  simp only [valD]
  rw [Nat.mul_zero, Nat.add_zero, Nat.add_comm]
theorem bl_val : ∀ {a b : List UInt8}, a.length = b.length → valB a < valB b → Op.bytesLess a b = true
  | [], [], _, h => by simp [valB] at h
  | _ :: _, [], h, _ => by simp at h
  | [], _ :: _, h, _ => by simp at h
  | x :: a, y :: b, hl, h => by
    simp only [List.length_cons, Nat.add_right_cancel_iff] at hl
    rw [valB_cons, valB_cons, hl] at h
    have h1 := valB_lt a
    have h2 := valB_lt b
    rw [hl] at h1
    generalize 256 ^ b.length = P at *
    simp only [Op.bytesLess, Bool.or_eq_true, Bool.and_eq_true, decide_eq_true_eq, beq_iff_eq]
    rcases Nat.lt_trichotomy x.toNat y.toNat with hxy | hxy | hxy
    · exact .inl (UInt8.lt_iff_toNat_lt.2 hxy)
    · have e := UInt8.toNat_inj.1 hxy
      subst e
      exact .inr ⟨rfl, bl_val hl (by omega)⟩
    · exfalso
      have := Nat.mul_le_mul_left P (show y.toNat + 1 ≤ x.toNat by omega)
      rw [Nat.mul_add, Nat.mul_one] at this
      omega
theorem bl_flip : ∀ {a b : List UInt8}, a.length = b.length → Op.bytesLess (a.map (255 - ·)) (b.map (255 - ·)) = Op.bytesLess b a
  | [], [], _ => rfl
  | _ :: _, [], h => by simp at h
  | [], _ :: _, h => by simp at h
  | x :: a, y :: b, hl => by
    simp only [List.length_cons, Nat.add_right_cancel_iff] at hl
    have hx := x.toNat_lt
    have hy := y.toNat_lt
    simp only [List.map_cons, Op.bytesLess, bl_flip hl]
    have e1 : (255 - x < 255 - y) = (y < x) := by
      rw [UInt8.lt_iff_toNat_lt, UInt8.lt_iff_toNat_lt, sub255, sub255]
      exact propext ⟨fun h => by omega, fun h => by omega⟩
    have e2 : (255 - x == 255 - y) = (y == x) := by
      rw [Bool.eq_iff_iff, beq_iff_eq, beq_iff_eq, ← UInt8.toNat_inj, ← UInt8.toNat_inj, sub255, sub255]
      omega
    simp only [e1, e2]
theorem digs_mono {a b : Nat} (h : a ≤ b) : (digs a).length ≤ (digs b).length := by
  rw [digs_len]
  exact Nat.lt_of_le_of_lt h ((digs_len _ b).1 (Nat.le_refl _))
theorem enc_less {m n : Int} (hm : isI64 m) (hn : isI64 n) (h : m < n) : Op.bytesLess (encI m) (encI n) = true := by
  have km := digs_len8 hm
  have kn := digs_len8 hn
  simp only [encI, Op.bytesLess, Bool.or_eq_true, Bool.and_eq_true, decide_eq_true_eq, beq_iff_eq, UInt8.lt_iff_toNat_lt, ← UInt8.toNat_inj, head_nat km, head_nat kn]
  by_cases h1 : n < 0
  · have h2 : m < 0 := by omega
    have hg : mag n < mag m := by unfold mag; rw [if_pos h1, if_pos h2]; omega
    have hd := digs_mono (Nat.le_of_lt hg)
    rw [if_pos h1, if_pos h2]
    by_cases he : (digs (mag m)).length = (digs (mag n)).length
    · refine .inr ⟨by omega, ?_⟩
      rw [show flp m = (255 - ·) from funext fun c => by simp [flp, h2], show flp n = (255 - ·) from funext fun c => by simp [flp, h1], bl_flip (by simpa using he)]
      exact bl_val (by simpa using he.symm) (by rw [valB_digs, valB_digs]; exact hg)
    · exact .inl (by omega)
  · rw [if_neg h1]
    by_cases h2 : m < 0
    · rw [if_pos h2]; exact .inl (by omega)
    · rw [if_neg h2]
      have hg : mag m < mag n := by unfold mag; rw [if_neg h1, if_neg h2]; omega
      have hd := digs_mono (Nat.le_of_lt hg)
      by_cases he : (digs (mag m)).length = (digs (mag n)).length
      · refine .inr ⟨by omega, ?_⟩
        rw [show flp m = id from funext fun c => by simp [flp, h2], show flp n = id from funext fun c => by simp [flp, h1], List.map_id, List.map_id]
        exact bl_val (by simpa using he) (by rw [valB_digs, valB_digs]; exact hg)
      · exact .inl (by omega)
theorem enc_lt {m n : Int} (hm : isI64 m) (hn : isI64 n) : Op.bytesLess (encI m) (encI n) = decide (m < n) := by
  rcases Int.lt_trichotomy m n with h | h | h
  · rw [enc_less hm hn h]; simp [h]
  · subst h; rw [bl_irr]; simp
  · rw [bl_asym (enc_less hn hm h), decide_eq_false (by omega)]
theorem enc_eq {m n : Int} (hm : isI64 m) (hn : isI64 n) : (encI m = encI n) ↔ m = n :=
  ⟨fun h => (encI_app_inj hm hn (r := []) (r' := []) (by rw [h])).1, fun h => by rw [h]⟩
theorem enc_take {m n : Int} (hm : isI64 m) (hn : isI64 n) {k : Nat} (hk : k = min (encI m).length (encI n).length) : ((encI m).take k = (encI n).take k) ↔ m = n := by
  constructor
  · intro h
    subst hk
    rcases Nat.le_total (encI m).length (encI n).length with hl | hl
    · rw [Nat.min_eq_left hl, List.take_length] at h
      refine (encI_app_inj hm hn (r := (encI n).drop (encI m).length) (r' := []) ?_).1
      rw [h, List.length_take, Nat.min_eq_left hl, List.take_append_drop, List.append_nil]
    · rw [Nat.min_eq_right hl, List.take_length] at h
      refine (encI_app_inj hm hn (r := []) (r' := (encI m).drop (encI n).length) ?_).1
      rw [← h, List.length_take, Nat.min_eq_left hl, List.take_append_drop, List.append_nil]
  · intro h; rw [h]
end Go.Abs
end

section
namespace Go.Abs
set_option maxRecDepth 100000
set_option maxHeartbeats 8000000 in
theorem wsan_ok (E : Env) (h38 : E.G 38 = sameC) (h60 : E.G 60 = sameDC) (h54 : E.G 54 = sameIC) (h57 : E.G 57 = sameSC) (h7 : E.G 7 = bytesC) (h43 : E.G 43 = wDigsC) (h48 : E.G 48 = getBytesC) (h58 : E.G 58 = getDigsC) (h45 : E.G 45 = getIntC) (h52 : E.G 52 = getIntsC) (h55 : E.G 55 = getStrsC) (h12 : E.G 12 = intC) (h39 : E.G 39 = wIntsC) (h41 : E.G 41 = wStrsC) : ∀ ds, sanC.pre ds → ds.length = f_custodylaw01_sanity.n ∧ awp E f_custodylaw01_sanity.body (retQ f_custodylaw01_sanity.res (sanC.post ds)) (initSt f_custodylaw01_sanity.wr ds) := by
  rintro _ rfl
  have hd : (1 : UInt8) :: 2 :: zeros 14 = exD := rfl
  have hl : exD.length = 16 := rfl
  have f7 : [i64 1, i64 (-1)] = ints [1, -1] := rfl
  have f8 : [st [], st [97]] = sts [[], [97]] := rfl
  have ht : exD.take 16 = exD := rfl
  have hz : zeros 0 = [] := rfl
  simp (maxSteps := 1000000) (disch := first | omega | (simp; done) | (simp; omega)) [W_id, bys_app, bys_snoc, f_custodylaw01_sanity, sanC, trueC, f1, f2, f8, f7, hz, hd, hl, ht, zeros_drop, splice_bb, h38, h60, h54, h57, h7, h43, h48, h58, h45, h52, h55, h12, h39, h41, getIntC, getBytesC, getIntsC, getStrsC, getDigsC, wIntsC, wStrsC, wDigsC, onB_pre, onIs_pre, onSs_pre, onDs_pre, same_pre, sameI_pre, sameS_pre, sameD_pre, int_pre, bytes_pre, vI, vIs, vSs, vD, tri_def, x1, x2, x3, x4, x5, x6, x7, x8, x9, x10, encm257, own1]
  refine ⟨of_eq_true (onB_pre (by simp [encDs, enc1, hl]) rfl), of_eq_true (onSs_pre (by decide) rfl), of_eq_true (onIs_pre (by simp) (fun x hx => ?_) rfl)⟩
  simp at hx
  rcases hx with rfl | rfl <;> (unfold isI64; decide)
end Go.Abs
end

section
namespace Go.Abs
set_option maxRecDepth 100000
theorem law_IntRound_ok (E : Env) (h63 : E.G 63 = sanC) (h12 : E.G 12 = intC) (h45 : E.G 45 = getIntC) : ∀ ds, lawIT.pre ds → ds.length = f_custodylaw01_WireIntRoundTrip.n ∧ awp E f_custodylaw01_WireIntRoundTrip.body (retQ f_custodylaw01_WireIntRoundTrip.res (lawIT.post ds)) (initSt f_custodylaw01_WireIntRoundTrip.wr ds) := by
  rintro _ ⟨n, nl, tail, ⟨i0, i1⟩, rfl⟩
  have hl := encI_len (n := n) ⟨i0, i1⟩
  have h0 := encI_ne n
  have hg := getI_enc (n := n) ⟨i0, i1⟩ tail
  simp (maxSteps := 1000000) (disch := first | omega | (simp; done) | (simp; omega)) [W_id, bys_app, bys_snoc, f_custodylaw01_WireIntRoundTrip, h63, lawIT, trueC]
  rw [awp_cond]
  refine ⟨by simp, fun h => ?_, fun h => ?_⟩ <;> simp at h
  · simp (maxSteps := 1000000) (disch := first | omega | (simp; done) | (simp; omega)) [W_id, bys_app, bys_snoc, h63]
  simp (maxSteps := 1000000) (disch := first | omega | (simp; done) | (simp; omega)) [W_id, bys_app, bys_snoc, f_custodylaw01_WireIntRoundTrip_r0, h63, h12, int_pre, h45, getIntC, onB_pre, vI, hg, tri_def, h0, dT]
  omega
theorem law_Decode_ok (E : Env) (h63 : E.G 63 = sanC) (h45 : E.G 45 = getIntC) (h46 : E.G 46 = getIntC) (h48 : E.G 48 = getBytesC) (h50 : E.G 50 = getBytesC) (h52 : E.G 52 = getIntsC) (h53 : E.G 53 = getIntsC) (h54 : E.G 54 = sameIC) (h55 : E.G 55 = getStrsC) (h56 : E.G 56 = getStrsC) (h57 : E.G 57 = sameSC) (h58 : E.G 58 = getDigsC) (h59 : E.G 59 = getDigsC) (h60 : E.G 60 = sameDC) : ∀ ds, lawB.pre ds → ds.length = f_custodylaw01_WireDecodeMatchesSpec.n ∧ awp E f_custodylaw01_WireDecodeMatchesSpec.body (retQ f_custodylaw01_WireDecodeMatchesSpec.res (lawB.post ds)) (initSt f_custodylaw01_WireDecodeMatchesSpec.wr ds) := by
  rintro _ ⟨nl, b, rfl⟩
  simp (maxSteps := 1000000) (disch := first | omega | (simp; done) | (simp; omega)) [W_id, bys_app, bys_snoc, f_custodylaw01_WireDecodeMatchesSpec, h63, lawB, trueC]
  rw [awp_cond]
  refine ⟨by simp, fun h => ?_, fun h => ?_⟩ <;> simp at h
  · simp (maxSteps := 1000000) (disch := first | omega | (simp; done) | (simp; omega)) [W_id, bys_app, bys_snoc, h63]
  have h1 := getLs_len getI b
  have h2 := getLs_len getS b
  obtain ⟨h3, h4⟩ := getD16_len b
  simp (maxSteps := 1000000) (disch := first | omega | (simp; done) | (simp; omega)) [W_id, bys_app, bys_snoc, f_custodylaw01_WireDecodeMatchesSpec_r0, h45, h46, getIntC, onB_pre, vI, tri_def]
  rw [awp_cond]
  refine ⟨by simp, fun ha => ?_, fun ha => ?_⟩ <;> simp at ha
  simp (maxSteps := 1000000) (disch := first | omega | (simp; done) | (simp; omega)) [W_id, bys_app, bys_snoc, f_custodylaw01_WireDecodeMatchesSpec_r1, h48, h50, getBytesC, onB_pre, tri_def]
  rw [awp_cond]
  refine ⟨by simp, fun hb => ?_, fun hb => ?_⟩ <;> simp at hb
  simp (maxSteps := 1000000) (disch := first | omega | (simp; done) | (simp; omega)) [W_id, bys_app, bys_snoc, f_custodylaw01_WireDecodeMatchesSpec_r2, h52, h53, h54, getIntsC, onB_pre, vIs, sameI_pre, tri_def]
  rw [awp_cond]
  refine ⟨by simp, fun hc => ?_, fun hc => ?_⟩ <;> simp at hc
  simp (maxSteps := 1000000) (disch := first | omega | (simp; done) | (simp; omega)) [W_id, bys_app, bys_snoc, f_custodylaw01_WireDecodeMatchesSpec_r3, h55, h56, h57, getStrsC, onB_pre, vSs, sameS_pre, tri_def]
  rw [awp_cond]
  refine ⟨by simp, fun hd => ?_, fun hd => ?_⟩ <;> simp at hd
  simp (maxSteps := 1000000) (disch := first | omega | (simp; done) | (simp; omega)) [W_id, bys_app, bys_snoc, f_custodylaw01_WireDecodeMatchesSpec_r4, h58, h59, h60, h63, getDigsC, onB_pre, vD, sameD_pre, tri_def]
theorem bin_st_lss (x y : List UInt8) : binV .lss (st x) (st y) = bo (Op.bytesLess x y) := by
  show AVal.lit (.bool (Op.bytesLess (ByteArray.mk x.toArray).toList (ByteArray.mk y.toArray).toList)) = _
  rw [bo, ByteArray.toList_eq, ByteArray.toList_eq]
def minV (x y : AVal) : AVal := match x, y with | .lit (.int k a), .lit (.int _ b) => .lit (.int k (if b < a then b else a)) | _, _ => .undef
theorem eff_min2 (E : Env) (get : Nat → AVal) (getB : Nat → Option (List AVal)) (x y : Arg) : eff E get getB (.min2 x y) = { val := minV (arg E get x) (arg E get y) } := rfl
theorem minV_i64 (a b : Int) : minV (i64 a) (i64 b) = i64 (if b < a then b else a) := rfl
set_option maxHeartbeats 4000000 in
theorem law_Order_ok (E : Env) (h63 : E.G 63 = sanC) (h12 : E.G 12 = intC) : ∀ ds, lawII.pre ds → ds.length = f_custodylaw01_WireOrder.n ∧ awp E f_custodylaw01_WireOrder.body (retQ f_custodylaw01_WireOrder.res (lawII.post ds)) (initSt f_custodylaw01_WireOrder.wr ds) := by
  rintro _ ⟨m, n, hm, hn, rfl⟩
  have h1 := enc_lt hm hn
  have h2 := enc_eq hm hn
  have hb : (m == n) = decide (m = n) := by rw [Bool.eq_iff_iff]; simp
  obtain ⟨m0, m1⟩ := hm
  obtain ⟨n0, n1⟩ := hn
  by_cases hk : (encI n).length < (encI m).length
  · have hk' : ((encI n).length : Int) < (encI m).length := by omega
    have h3 := enc_take (k := (encI n).length) ⟨m0, m1⟩ ⟨n0, n1⟩ (by omega)
    simp (maxSteps := 1000000) (disch := first | omega | (simp; done) | (simp; omega)) [W_id, bys_app, bys_snoc, f_custodylaw01_WireOrder, h63, lawII, trueC, h12, int_pre, bin_st_lss, h1, h2, h3, hb, hk', ↓eff_min2, minV_i64]
    rw [List.take_length] at h3
    exact ⟨by omega, h3⟩
  · have hk' : ¬ ((encI n).length : Int) < (encI m).length := by omega
    have h3 := enc_take (k := (encI m).length) ⟨m0, m1⟩ ⟨n0, n1⟩ (by omega)
    simp (maxSteps := 1000000) (disch := first | omega | (simp; done) | (simp; omega)) [W_id, bys_app, bys_snoc, f_custodylaw01_WireOrder, h63, lawII, trueC, h12, int_pre, bin_st_lss, h1, h2, h3, hb, hk', ↓eff_min2, minV_i64]
    rw [List.take_length] at h3
    exact ⟨by omega, h3⟩
end Go.Abs
end

section
namespace Go.Abs
theorem lawIT_pre (as : List AVal) (h : hasA [.int .i64, .sl (.int .u8)] as) : lawIT.pre as := by
  simp only [hasA] at h
  obtain ⟨c0, _, rfl, h0, c1, _, rfl, h1, rfl⟩ := h
  obtain ⟨n, n0, n1, rfl⟩ := has_i64 h0
  obtain ⟨l, rfl⟩ := has_bytes h1
  exact ⟨n, none, l, ⟨n0, n1⟩, rfl⟩
theorem lawII_pre (as : List AVal) (h : hasA [.int .i64, .int .i64] as) : lawII.pre as := by
  simp only [hasA] at h
  obtain ⟨c0, _, rfl, h0, c1, _, rfl, h1, rfl⟩ := h
  obtain ⟨m, m0, m1, rfl⟩ := has_i64 h0
  obtain ⟨n, n0, n1, rfl⟩ := has_i64 h1
  exact ⟨m, n, ⟨m0, m1⟩, ⟨n0, n1⟩, rfl⟩
theorem lawB_pre (as : List AVal) (h : hasA [.sl (.int .u8)] as) : lawB.pre as := by
  simp only [hasA] at h
  obtain ⟨c0, _, rfl, h0, rfl⟩ := h
  obtain ⟨l, rfl⟩ := has_bytes h0
  exact ⟨none, l, rfl⟩
end Go.Abs
end

section
namespace Go.Abs
theorem cnt_enc {n s : Nat} (hn : n ≤ 9223372036854775807) (hs : 0 < s) {r : List UInt8} (h : n * s ≤ r.length) : cntE (encI n ++ r) s = 0 ∧ getI (encI n ++ r) = ((n : Int), (encI n).length, 0) := by
  have hg := getI_enc (isI64_nat hn) r
  refine ⟨?_, hg⟩
  unfold cntE
  rw [hg]
  simp only [ne_eq, not_true_eq_false, if_false, Int.toNat_natCast, List.length_append, Nat.add_sub_cancel_left]
  rw [if_neg (by omega), if_neg]
  rw [Nat.not_lt, Nat.le_div_iff_mul_le hs]
  exact h
theorem getS_enc {s : List UInt8} (h : s.length ≤ 9223372036854775807) (r : List UInt8) : getS (encS s ++ r) = (s, (encS s).length, 0) := by
  obtain ⟨h1, h2⟩ := cnt_enc h (s := 1) (by decide) (r := s ++ r) (by simp)
  rw [encS, List.append_assoc, getS, if_pos h1, h2]
  simp only [Int.toNat_natCast, List.drop_left, List.take_left, List.length_append]
theorem getL_enc {α : Type} {f : List UInt8 → α × Nat × Nat} {enc : α → List UInt8} : ∀ (l : List α) (p r : List UInt8), (∀ x ∈ l, ∀ r, f (enc x ++ r) = (x, (enc x).length, 0)) →
    getL f l.length (p ++ (l.flatMap enc ++ r)) p.length = (l, p.length + (l.flatMap enc).length, 0)
  | [], p, r, _ => by simp [getL]
  | x :: l, p, r, h => by
    have h1 := h x (by simp) (l.flatMap enc ++ r)
    have ih := getL_enc l (p ++ enc x) r fun y hy => h y (by simp [hy])
    have e : p ++ ((x :: l).flatMap enc ++ r) = (p ++ enc x) ++ (l.flatMap enc ++ r) := by simp
    have e2 : (p ++ ((x :: l).flatMap enc ++ r)).drop p.length = enc x ++ (l.flatMap enc ++ r) := by rw [List.drop_left]; simp
    rw [List.length_append] at ih
    rw [List.length_cons, getL, e2, h1]
    simp only [ne_eq, not_true_eq_false, if_false]
    rw [e, ih]
    simp only [ne_eq, not_true_eq_false, if_false, List.flatMap_cons, List.length_append, Prod.mk.injEq, and_true, true_and]
    omega
theorem flat_len {α : Type} {enc : α → List UInt8} (h : ∀ x, 0 < (enc x).length) : ∀ l : List α, l.length ≤ (l.flatMap enc).length
  | [] => by simp
  | x :: l => by
    have := flat_len h l
    have := h x
    simp only [List.flatMap_cons, List.length_append, List.length_cons]; omega
theorem encI_pos (n : Int) : 0 < (encI n).length := by simp [encI]
theorem encS_pos (s : List UInt8) : 0 < (encS s).length := by have := encI_pos s.length; rw [encS, List.length_append]; omega
theorem getLs_enc {α : Type} {f : List UInt8 → α × Nat × Nat} {enc : α → List UInt8} {l : List α} (hp : ∀ x, 0 < (enc x).length) (hl : l.length ≤ 9223372036854775807) (h : ∀ x ∈ l, ∀ r, f (enc x ++ r) = (x, (enc x).length, 0)) (r : List UInt8) :
    getLs f 1 (encI l.length ++ l.flatMap enc ++ r) = (l, (encI l.length ++ l.flatMap enc).length, 0) := by
  have h0 := flat_len hp l
  obtain ⟨h1, h2⟩ := cnt_enc hl (s := 1) (by decide) (r := l.flatMap enc ++ r) (by simp only [List.length_append]; omega)
  rw [List.append_assoc, getLs, if_pos h1, h2, Int.toNat_natCast, getL_enc l (encI l.length) r h, List.length_append]
theorem getIs_enc {l : List Int} (hl : l.length ≤ 9223372036854775807) (h : ∀ x ∈ l, isI64 x) (r : List UInt8) : getLs getI 1 (encIs l ++ r) = (l, (encIs l).length, 0) :=
  getLs_enc encI_pos hl (fun x hx r => getI_enc (h x hx) r) r
theorem getSs_enc {l : List (List UInt8)} (hl : l.length ≤ 9223372036854775807) (h : ∀ x ∈ l, x.length ≤ 9223372036854775807) (r : List UInt8) : getLs getS 1 (encSs l ++ r) = (l, (encSs l).length, 0) :=
  getLs_enc encS_pos hl (fun x hx r => getS_enc (h x hx) r) r
theorem getDs_enc {n : Nat} {d : List UInt8} (hn : n ≤ 9223372036854775807) (hd : d.length = n * 16) (r : List UInt8) : getD16 (encDs n d ++ r) = (d, (encDs n d).length, 0) := by
  obtain ⟨h1, h2⟩ := cnt_enc hn (s := 16) (by decide) (r := d ++ r) (by simp only [List.length_append]; omega)
  rw [encDs, List.append_assoc, getD16, if_pos h1, h2]
  simp only [Int.toNat_natCast, List.drop_left, List.length_append, hd]
  rw [← hd, List.take_left]
def lawSL : Contract := trueC fun ds => ∃ (s : List UInt8) (nl : Option Bool) (l : List Int), s.length ≤ 2000000 ∧ l.length ≤ 2000000 ∧ (∀ x ∈ l, isI64 x) ∧ ds = [st s, .sl .plain nl l.length (ints l)]
theorem encS_le {s : List UInt8} (h : s.length ≤ 9223372036854775807) : (encS s).length ≤ s.length + 9 := by
  have := encI_len (isI64_nat h)
  rw [encS, List.length_append]; omega
theorem encIs_len {l : List Int} (h : ∀ x ∈ l, isI64 x) (hl : l.length ≤ 9223372036854775807) : (encIs l).length ≤ 9 * l.length + 9 := by
  have h1 := encI_len (isI64_nat hl)
  have h2 := len_flatMap_encI h
  rw [encIs, List.length_append]; omega
def few1 (x : List (List UInt8)) : Nat := (x.map fun s => s.length + 1).sum
def lensS (x : List (List UInt8)) : Nat := (x.map List.length).sum
theorem few1_eq (x : List (List UInt8)) : few1 x = x.length + lensS x := by
  induction x with
  | nil => rfl
  | cons s x ih => simp only [few1, lensS, List.map_cons, List.sum_cons, List.length_cons] at ih ⊢; omega
theorem totS_few (x : List (List UInt8)) : totS x ≤ 9 * few1 x := by
  induction x with
  | nil => simp [totS, few1]
  | cons s x ih => simp only [few1, totS, List.map_cons, List.sum_cons] at ih ⊢; omega
theorem lensS_take {x : List (List UInt8)} {i : Nat} (h : i < x.length) : lensS (x.take (i + 1)) = lensS (x.take i) + (atS x i).length := by
  rw [takeS h, lensS, lensS, List.map_append, List.sum_append]; simp
theorem lensS_take_le (x : List (List UInt8)) (i : Nat) : lensS (x.take i) ≤ lensS x := by
  have : lensS x = lensS (x.take i) + lensS (x.drop i) := by
    rw [lensS, lensS, lensS, ← List.sum_append, ← List.map_append, List.take_append_drop]
  omega
def fewsC : Contract := ⟨fun ds => ∃ nl x, few1 x ≤ 100000000 ∧ ds = [.sl .plain nl x.length (sts x)], fun ds => bo (decide (few1 (gSs (gCs (nth ds 0))) ≤ 2000))⟩
theorem fews_pre {nl : Option Bool} {n : Nat} {x : List (List UInt8)} (h : few1 x ≤ 100000000) (hn : n = x.length) : fewsC.pre [.sl .plain nl n (sts x)] = True := by
  subst hn; exact eq_true ⟨nl, x, h, rfl⟩
@[simp] theorem fews_post (m : Mode) (nl : Option Bool) (n : Nat) (x : List (List UInt8)) : fewsC.post [.sl m nl n (sts x)] = bo (decide (few1 x ≤ 2000)) := by simp [fewsC]
def lawE5 : Contract := trueC fun ds => ∃ (n : Int) (s : List UInt8) (nl nx nd : Option Bool) (l : List Int) (x : List (List UInt8)) (k : Nat) (d : List UInt8), isI64 n ∧ s.length ≤ 2000000 ∧ l.length ≤ 2000000 ∧ (∀ y ∈ l, isI64 y) ∧ few1 x ≤ 2000000 ∧ k ≤ 2000000 ∧ d.length = k * 16 ∧
  ds = [i64 n, st s, .sl .plain nl l.length (ints l), .sl .plain nx x.length (sts x), .sl .plain nd k (bys d)]
theorem encSs_len {x : List (List UInt8)} (h : few1 x ≤ 100000000) : (encSs x).length ≤ 9 * few1 x + 9 := by
  have h0 := few1_eq x
  have h1 := encI_len (isI64_nat (n := x.length) (by omega))
  have h2 := totS_few x
  have h3 := len_flatMap_encS (l := x) (by omega)
  rw [encSs, List.length_append]; omega
theorem encDs_len {k : Nat} {d : List UInt8} (h : k ≤ 9223372036854775807) : (encDs k d).length ≤ d.length + 9 := by
  have h1 := encI_len (isI64_nat h)
  rw [encDs, List.length_append]; omega
end Go.Abs
end

section
namespace Go.Abs
set_option maxRecDepth 100000
set_option maxHeartbeats 4000000 in
theorem law_Concat_ok (E : Env) (h63 : E.G 63 = sanC) (h7 : E.G 7 = bytesC) (h39 : E.G 39 = wIntsC) (h48 : E.G 48 = getBytesC) (h52 : E.G 52 = getIntsC) (h54 : E.G 54 = sameIC) : ∀ ds, lawSL.pre ds → ds.length = f_custodylaw01_WireConcat.n ∧ awp E f_custodylaw01_WireConcat.body (retQ f_custodylaw01_WireConcat.res (lawSL.post ds)) (initSt f_custodylaw01_WireConcat.wr ds) := by
  rintro _ ⟨s, nl, l, hs, hl, hm, rfl⟩
  simp (maxSteps := 1000000) (disch := first | omega | (simp; done) | (simp; omega)) [W_id, bys_app, bys_snoc, f_custodylaw01_WireConcat, h63, lawSL, trueC]
  rw [awp_cond]
  refine ⟨by simp, fun h => ?_, fun h => ?_⟩ <;> simp at h
  · simp (maxSteps := 1000000) (disch := first | omega | (simp; done) | (simp; omega)) [W_id, bys_app, bys_snoc, h63]
  have hel := encS_le (s := s) (by omega)
  have hil := encIs_len hm (by omega)
  have g1 := getS_enc (s := s) (by omega) (encIs l)
  have g2 := getIs_enc (by omega) hm []
  rw [List.append_nil] at g2
  have hd : (encS s ++ encIs l).drop (encS s).length = encIs l := List.drop_left
  have ht : (encIs l).take (encIs l).length = encIs l := List.take_length
  simp (maxSteps := 1000000) (disch := first | omega | (simp; done) | (simp; omega)) [W_id, bys_app, bys_snoc, f_custodylaw01_WireConcat_r0, h7, bytes_pre, h39, wIntsC, onIs_pre, own1, h48, getBytesC, onB_pre, g1, tri_def, dT, dF]
  refine ⟨by omega, ?_⟩
  rw [awp_cond]
  refine ⟨by simp, fun h2 => ?_, fun h2 => ?_⟩ <;> simp at h2
  simp (maxSteps := 1000000) (disch := first | omega | (simp; done) | (simp; omega)) [W_id, bys_app, bys_snoc, f_custodylaw01_WireConcat_r1, h52, getIntsC, onB_pre, vIs, hd, ht, g2, tri_def, h63, h54, sameI_pre, dT, dF]
  omega
theorem fews_ok (E : Env) : ∀ ds, fewsC.pre ds → ds.length = f_custodylaw01_few.n ∧ awp E f_custodylaw01_few.body (retQ f_custodylaw01_few.res (fewsC.post ds)) (initSt f_custodylaw01_few.wr ds) := by
  rintro _ ⟨nl, x, hx, rfl⟩
  have h0 := few1_eq x
  simp (maxSteps := 1000000) (disch := first | omega | (simp; done) | (simp; omega)) [W_id, bys_app, bys_snoc, f_custodylaw01_few]
  refine awp_name fun Q0 hQ0 => ?_
  refine awp_for (fun i : Nat => ⟨[(0, .sl .plain nl x.length (sts x))], [(3, i64 ((x.length + lensS (x.take i) : Nat) : Int)), (8, .sl .plain nl x.length (sts x)), (9, i64 x.length), (10, i64 i)], []⟩)
    (fun i => x.length - i) (· ≤ x.length) 0 (by simp [lensS]) (by simp) fun i hi => ?_
  refine awp_name fun Q1 hQ1 => ?_
  simp (maxSteps := 1000000) (disch := first | omega | (simp; done) | (simp; omega)) [W_id, bys_app, bys_snoc, f_custodylaw01_few_l0]
  rw [awp_cond]
  refine ⟨by simp, fun h1 => ?_, fun h1 => ?_⟩ <;> simp at h1
  · have h1' : i < x.length := by omega
    have hs := lensS_take h1'
    have hle := lensS_take_le x (i + 1)
    simp (maxSteps := 1000000) (disch := first | omega | (simp; done) | (simp; omega)) [W_id, bys_app, bys_snoc, f_custodylaw01_few_r0, hd_sts, hQ1]
    refine ⟨by omega, by omega, i + 1, by omega, by omega, by omega, by simp⟩
  · have e : i = x.length := by omega
    subst e
    have he : (decide ((x.length : Int) + (lensS x : Nat) ≤ 2000)) = decide (few1 x ≤ 2000) := by
      rw [h0, decide_eq_decide]; omega
    simp (maxSteps := 1000000) (disch := first | omega | (simp; done) | (simp; omega)) [W_id, bys_app, bys_snoc, hQ1, hQ0, f_custodylaw01_few_r1, he, fewsC]
set_option maxHeartbeats 4000000 in
theorem law_Encode_ok (E : Env) (h63 : E.G 63 = sanC) (h62 : E.G 62 = fewsC) (h12 : E.G 12 = intC) (h30 : E.G 30 = rintC) (h38 : E.G 38 = sameC) (h7 : E.G 7 = bytesC) (h29 : E.G 29 = rbytesC) (h39 : E.G 39 = wIntsC) (h40 : E.G 40 = rIntsC) (h41 : E.G 41 = wStrsC) (h42 : E.G 42 = rStrsC) (h43 : E.G 43 = wDigsC) (h44 : E.G 44 = rDigsC) : ∀ ds, lawE5.pre ds → ds.length = f_custodylaw01_WireEncodeMatchesSpec.n ∧ awp E f_custodylaw01_WireEncodeMatchesSpec.body (retQ f_custodylaw01_WireEncodeMatchesSpec.res (lawE5.post ds)) (initSt f_custodylaw01_WireEncodeMatchesSpec.wr ds) := by
  rintro _ ⟨n, s, nl, nx, nd, l, x, k, d, ⟨n0, n1⟩, hs, hl, hm, hx, hk, hd, rfl⟩
  have h1 := encI_len ⟨n0, n1⟩
  have h2 := encS_le (s := s) (by omega)
  have h3 := encIs_len hm (by omega)
  have h4 := encSs_len (x := x) (by omega)
  have h5 := encDs_len (k := k) (d := d) (by omega)
  have h6 := totS_few x
  by_cases hg : 2000 < s.length + l.length + k
  · simp (maxSteps := 1000000) (disch := first | omega | (simp; done) | (simp; omega)) [W_id, bys_app, bys_snoc, f_custodylaw01_WireEncodeMatchesSpec, h63, h62, lawE5, trueC, fews_pre, dT, dF]
    rw [awp_cond]
    refine ⟨by simp, fun h => ?_, fun h => ?_⟩ <;> simp at h
    simp (maxSteps := 1000000) (disch := first | omega | (simp; done) | (simp; omega)) [W_id, bys_app, bys_snoc, h63]
  by_cases hf : few1 x ≤ 2000
  · simp (maxSteps := 1000000) (disch := first | omega | (simp; done) | (simp; omega)) [W_id, bys_app, bys_snoc, f_custodylaw01_WireEncodeMatchesSpec, h63, h62, lawE5, trueC, fews_pre, hf, dT, dF]
    rw [awp_cond]
    refine ⟨by simp, fun h => ?_, fun h => ?_⟩ <;> simp at h
    simp (maxSteps := 1000000) (disch := first | omega | (simp; done) | (simp; omega)) [W_id, bys_app, bys_snoc, f_custodylaw01_WireEncodeMatchesSpec_r0, h63, h12, int_pre, h30, rint_pre, h38, same_pre, h7, bytes_pre, h29, rbytes_pre, h39, wIntsC, h40, rIntsC, onIs_pre, h41, wStrsC, h42, rStrsC, onSs_pre, h43, wDigsC, h44, rDigsC, onDs_pre, own1]
  · simp (maxSteps := 1000000) (disch := first | omega | (simp; done) | (simp; omega)) [W_id, bys_app, bys_snoc, f_custodylaw01_WireEncodeMatchesSpec, h63, h62, lawE5, trueC, fews_pre, hf, dT, dF]
    rw [awp_cond]
    refine ⟨by simp, fun h => ?_, fun h => ?_⟩ <;> simp at h
    simp (maxSteps := 1000000) (disch := first | omega | (simp; done) | (simp; omega)) [W_id, bys_app, bys_snoc, h63]
end Go.Abs
end

section
namespace Go.Abs
theorem list_ofP {α : Type} {P : List AVal → Prop} {Q : α → Prop} {f : α → List AVal} (h : ∀ cs, P cs → ∃ x, Q x ∧ cs = f x) : ∀ (ess : List (List AVal)), (∀ c ∈ ess, P c) → ∃ l : List α, (∀ x ∈ l, Q x) ∧ ess = l.map f
  | [], _ => ⟨[], by simp, rfl⟩
  | c :: ess, hc => by
    obtain ⟨x, hq, hx⟩ := h c (hc c (by simp))
    obtain ⟨l, hl, he⟩ := list_ofP h ess fun d hd => hc d (by simp [hd])
    exact ⟨x :: l, by simpa using ⟨hq, hl⟩, by rw [List.map_cons, ← hx, ← he]⟩
theorem has_ints {cs : List AVal} (h : (GT.sl (.int .i64)).has cs) : ∃ l : List Int, (∀ x ∈ l, isI64 x) ∧ cs = [.sl .plain none l.length (ints l)] := by
  simp only [GT.has] at h
  obtain ⟨ess, h1, rfl, _⟩ := h
  obtain ⟨l, hl, rfl⟩ := list_ofP (P := (GT.int .i64).has) (Q := isI64) (f := fun x => [i64 x]) (fun cs h => by obtain ⟨x, h0, h1, e⟩ := has_i64 h; exact ⟨x, ⟨h0, h1⟩, e⟩) ess (by simpa only [GT.has] using h1)
  exact ⟨l, hl, by rw [flat_one, List.length_map]; rfl⟩
theorem flat16 : ∀ l : List (List UInt8), (∀ x ∈ l, x.length = 16) → ∃ d : List UInt8, d.length = l.length * 16 ∧ (l.map bys).flatten = bys d
  | [], _ => ⟨[], rfl, rfl⟩
  | x :: l, h => by
    obtain ⟨d, h1, h2⟩ := flat16 l fun y hy => h y (by simp [hy])
    have := h x (by simp)
    exact ⟨x ++ d, by simp only [List.length_append, List.length_cons]; omega, by rw [List.map_cons, List.flatten_cons, h2, bys_append]⟩
theorem has_digs {cs : List AVal} (h : (GT.sl (.arr 16 (.int .u8))).has cs) : ∃ (k : Nat) (d : List UInt8), d.length = k * 16 ∧ cs = [.sl .plain none k (bys d)] := by
  have h0 := h
  simp only [GT.has] at h
  obtain ⟨ess, h1, rfl, _⟩ := h
  obtain ⟨l, hl, rfl⟩ := list_ofP (P := (GT.arr 16 (.int .u8)).has) (Q := fun x : List UInt8 => x.length = 16) (f := bys) (fun cs h => by obtain ⟨x, h0, e⟩ := has_arr8 h; exact ⟨x, h0, e⟩) ess (by simpa only [GT.has] using h1)
  obtain ⟨d, h2, h3⟩ := flat16 l hl
  exact ⟨l.length, d, h2, by rw [h3, List.length_map]⟩
theorem wt_st (l : List UInt8) : wt (st l) = l.length + 1 := by simp [st, wt]
theorem wt_i64 (n : Int) : wt (i64 n) = 1 := rfl
theorem wtL_ints (l : List Int) : wtL (ints l) = l.length := by
  induction l with
  | nil => rfl
  | cons x l ih => rw [ints_cons, wtL, ih, wt_i64, List.length_cons]; omega
theorem wtL_sts (l : List (List UInt8)) : wtL (sts l) = few1 l := by
  induction l with
  | nil => rfl
  | cons x l ih => rw [sts_cons, wtL, ih, wt_st]; simp [few1]
theorem wtL_bys (l : List UInt8) : wtL (bys l) = l.length := by
  induction l with
  | nil => rfl
  | cons x l ih => rw [bys_cons, wtL, ih, show wt (u8 x) = 1 from rfl, List.length_cons]; omega
theorem lawSL_pre (as : List AVal) (h : hasA [.str, .sl (.int .i64)] as) (hb : wtL as ≤ 1048576) : lawSL.pre as := by
  simp only [hasA] at h
  obtain ⟨c0, _, rfl, h0, c1, _, rfl, h1, rfl⟩ := h
  obtain ⟨s, rfl⟩ := has_str h0
  obtain ⟨l, hl, rfl⟩ := has_ints h1
  change wt (st s) + (wt (.sl .plain none l.length (ints l)) + 0) ≤ 1048576 at hb
  rw [wt_st, show wt (.sl .plain none l.length (ints l)) = wtL (ints l) + 1 by simp only [wt], wtL_ints] at hb
  exact ⟨s, none, l, by omega, by omega, hl, rfl⟩
theorem lawE5_pre (as : List AVal) (h : hasA [.int .i64, .str, .sl (.int .i64), .sl .str, .sl (.arr 16 (.int .u8))] as) (hb : wtL as ≤ 1048576) : lawE5.pre as := by
  simp only [hasA] at h
  obtain ⟨c0, _, rfl, h0, c1, _, rfl, h1, c2, _, rfl, h2, c3, _, rfl, h3, c4, _, rfl, h4, rfl⟩ := h
  obtain ⟨n, n0, n1, rfl⟩ := has_i64 h0
  obtain ⟨s, rfl⟩ := has_str h1
  obtain ⟨l, hl, rfl⟩ := has_ints h2
  obtain ⟨x, rfl⟩ := has_strs h3
  obtain ⟨k, d, hd, rfl⟩ := has_digs h4
  change wt (i64 n) + (wt (st s) + (wt (.sl .plain none l.length (ints l)) + (wt (.sl .plain none x.length (sts x)) + (wt (.sl .plain none k (bys d)) + 0)))) ≤ 1048576 at hb
  rw [wt_i64, wt_st, show wt (.sl .plain none l.length (ints l)) = wtL (ints l) + 1 by simp only [wt], show wt (.sl .plain none x.length (sts x)) = wtL (sts x) + 1 by simp only [wt], show wt (.sl .plain none k (bys d)) = wtL (bys d) + 1 by simp only [wt], wtL_ints, wtL_sts, wtL_bys] at hb
  exact ⟨n, s, none, none, none, l, x, k, d, ⟨n0, n1⟩, by omega, by omega, hl, by omega, by omega, hd, rfl⟩
end Go.Abs
end

section
namespace Go.Abs
theorem getL_ok {α : Type} {f : List UInt8 → α × Nat × Nat} {enc : α → List UInt8} {P : α → Prop} (hf : ∀ c, (f c).2.2 = 0 → (f c).2.1 ≤ c.length ∧ c.take (f c).2.1 = enc (f c).1 ∧ P (f c).1) :
    ∀ (n : Nat) (b : List UInt8) (i : Nat), i ≤ b.length → (getL f n b i).2.2 = 0 →
      i ≤ (getL f n b i).2.1 ∧ (getL f n b i).2.1 ≤ b.length ∧ (getL f n b i).1.length = n ∧ (b.drop i).take ((getL f n b i).2.1 - i) = (getL f n b i).1.flatMap enc ∧ ∀ x ∈ (getL f n b i).1, P x
  | 0, b, i, hi, _ => by simp [getL, hi]
  | n + 1, b, i, hi, h => by
    rw [getL] at h ⊢
    by_cases h1 : (f (b.drop i)).2.2 = 0
    · rw [if_neg (by simpa using h1)] at h ⊢
      obtain ⟨k1, k2, k3⟩ := hf _ h1
      rw [List.length_drop] at k1
      by_cases h2 : (getL f n b (i + (f (b.drop i)).2.1)).2.2 = 0
      · rw [if_neg (by simpa using h2)]
        obtain ⟨j1, j2, j3, j4, j5⟩ := getL_ok hf n b (i + (f (b.drop i)).2.1) (by omega) h2
        simp only
        refine ⟨by omega, j2, by simp [j3], ?_, fun x hx => ?_⟩
        · generalize (getL f n b (i + (f (b.drop i)).2.1)).2.1 = w at *
          rw [List.flatMap_cons, ← j4, ← k2, show w - i = (f (b.drop i)).2.1 + (w - (i + (f (b.drop i)).2.1)) by omega, List.take_add, List.drop_drop]
        · rcases List.mem_cons.1 hx with rfl | hx
          · exact k3
          · exact j5 x hx
      · rw [if_pos h2] at h
        exact absurd h h2
    · rw [if_pos h1] at h
      exact absurd h h1
theorem getLs_ok {α : Type} {f : List UInt8 → α × Nat × Nat} {enc : α → List UInt8} {P : α → Prop} (hf : ∀ c, (f c).2.2 = 0 → (f c).2.1 ≤ c.length ∧ c.take (f c).2.1 = enc (f c).1 ∧ P (f c).1) {b : List UInt8} (h : (getLs f 1 b).2.2 = 0) :
    (getLs f 1 b).2.1 ≤ b.length ∧ b.take (getLs f 1 b).2.1 = encI (getLs f 1 b).1.length ++ (getLs f 1 b).1.flatMap enc ∧ ∀ x ∈ (getLs f 1 b).1, P x := by
  unfold getLs at h ⊢
  rcases cnt_cases b 1 (by decide) with (hE | hE) | ⟨hE, n, u, hg, hu, hn, hu9⟩
  · rw [hE] at h; simp at h
  · rw [hE] at h; simp at h
  · rw [if_pos hE, hg] at h ⊢
    simp only [Int.toNat_natCast] at h ⊢
    obtain ⟨j1, j2, j3, j4, j5⟩ := getL_ok hf n b u hu h
    obtain ⟨e1, e2, e3, e4⟩ := getI_ok hg
    refine ⟨j2, ?_, j5⟩
    rw [j3, ← e3, ← j4]
    generalize (getL f n b u).2.1 = w at *
    rw [show w = u + (w - u) by omega, List.take_add, show u + (w - u) - u = w - u by omega]
theorem getI_ok' (c : List UInt8) (h : (getI c).2.2 = 0) : (getI c).2.1 ≤ c.length ∧ c.take (getI c).2.1 = encI (getI c).1 ∧ isI64 (getI c).1 := by
  obtain ⟨n, u, e⟩ : ∃ n u, getI c = (n, u, 0) := ⟨_, _, Prod.ext rfl (Prod.ext rfl h)⟩
  obtain ⟨e1, e2, e3, e4⟩ := getI_ok e
  rw [e]; exact ⟨e2, e3, e1⟩
theorem getS_ok' (c : List UInt8) (h : (getS c).2.2 = 0) : (getS c).2.1 ≤ c.length ∧ c.take (getS c).2.1 = encS (getS c).1 ∧ (getS c).1.length ≤ c.length := by
  refine ⟨(getS_used c).1, ?_, (getS_used c).2⟩
  unfold getS at h ⊢
  rcases cnt_cases c 1 (by decide) with (hE | hE) | ⟨hE, n, u, hg, hu, hn, hu9⟩
  · rw [hE] at h; simp at h
  · rw [hE] at h; simp at h
  · rw [if_pos hE, hg]
    obtain ⟨e1, e2, e3, e4⟩ := getI_ok hg
    simp only [Int.toNat_natCast]
    rw [encS, List.length_take, List.length_drop, Nat.min_eq_left (by omega), ← e3, List.take_add]
theorem getD_ok' (c : List UInt8) (h : (getD16 c).2.2 = 0) : (getD16 c).2.1 ≤ c.length ∧ c.take (getD16 c).2.1 = encDs ((getD16 c).1.length / 16) (getD16 c).1 := by
  unfold getD16 at h ⊢
  rcases cnt_cases c 16 (by decide) with (hE | hE) | ⟨hE, n, u, hg, hu, hn, hu9⟩
  · rw [hE] at h; simp at h
  · rw [hE] at h; simp at h
  · rw [if_pos hE, hg]
    obtain ⟨e1, e2, e3, e4⟩ := getI_ok hg
    simp only [Int.toNat_natCast]
    refine ⟨by omega, ?_⟩
    rw [encDs, List.length_take, List.length_drop, Nat.min_eq_left hn, Nat.mul_div_cancel _ (by decide), ← e3, List.take_add]
theorem totS_enc : ∀ l : List (List UInt8), totS l ≤ 9 * (l.flatMap encS).length
  | [] => by simp [totS]
  | s :: l => by
    have := totS_enc l
    have h := encI_pos s.length
    simp only [totS, List.map_cons, List.sum_cons, List.flatMap_cons, List.length_append, encS] at this ⊢
    omega
theorem getSs_ok {b : List UInt8} (h : (getLs getS 1 b).2.2 = 0) : (getLs getS 1 b).2.1 ≤ b.length ∧ b.take (getLs getS 1 b).2.1 = encI (getLs getS 1 b).1.length ++ (getLs getS 1 b).1.flatMap encS ∧ ∀ x ∈ (getLs getS 1 b).1, True :=
  getLs_ok (enc := encS) (P := fun _ => True) (fun c hc => ⟨(getS_ok' c hc).1, (getS_ok' c hc).2.1, trivial⟩) h
/-- Whatever is decoded may be encoded. -/
theorem getIs_mem (b : List UInt8) : ∀ x ∈ (getLs getI 1 b).1, isI64 x := by
  by_cases h : (getLs getI 1 b).2.2 = 0
  · exact (getLs_ok getI_ok' h).2.2
  · have : (getLs getI 1 b).1 = [] := by
      unfold getLs at h ⊢
      split
      · rename_i hE
        rw [if_pos hE] at h
        rcases getL_err getI (getI b).1.toNat b (getI b).2.1 with e | e
        · exact absurd e h
        · rw [e]
      · rfl
    rw [this]; simp
theorem getSs_tot (b : List UInt8) : totS (getLs getS 1 b).1 ≤ 9 * b.length := by
  by_cases h : (getLs getS 1 b).2.2 = 0
  · obtain ⟨h1, h2, h3⟩ := getSs_ok h
    have := totS_enc (getLs getS 1 b).1
    have hl := congrArg List.length h2
    rw [List.length_take, List.length_append] at hl
    omega
  · have : (getLs getS 1 b).1 = [] := by
      unfold getLs at h ⊢
      split
      · rename_i hE
        rw [if_pos hE] at h
        rcases getL_err getS (getI b).1.toNat b (getI b).2.1 with e | e
        · exact absurd e h
        · rw [e]
      · rfl
    rw [this]; simp [totS]
def isV (c : List UInt8) (u : Int) (e : Int) (b : List UInt8) : Bool := e != 0 || (decide (0 ≤ u) && decide (u ≤ b.length) && c == b.take u.toNat)
def isC : Contract := ⟨fun ds => ∃ (nc nl : Option Bool) (c b : List UInt8) (u e : Int), c.length ≤ 1000000000 ∧ b.length ≤ 1000000000 ∧ ds = [.sl .plain nc c.length (bys c), i64 u, i64 e, .ep [.sl .plain nl b.length (bys b)]],
  fun ds => bo (isV (gBs (gCs (nth ds 0))) (asI (nth ds 1)) (asI (nth ds 2)) (gBs (gCs (hdA (gCs (nth ds 3))))))⟩
theorem is_pre {nc nl : Option Bool} {k n : Nat} {c b : List UInt8} {u e : Int} (hc : c.length ≤ 1000000000) (hb : b.length ≤ 1000000000) (hk : k = c.length) (hn : n = b.length) : isC.pre [.sl .plain nc k (bys c), i64 u, i64 e, .ep [.sl .plain nl n (bys b)]] = True := by
  subst hk; subst hn; exact eq_true ⟨nc, nl, c, b, u, e, hc, hb, rfl⟩
@[simp] theorem is_post (m m' : Mode) (nc nl : Option Bool) (k n : Nat) (c b : List UInt8) (u e : Int) : isC.post [.sl m nc k (bys c), i64 u, i64 e, .ep [.sl m' nl n (bys b)]] = bo (isV c u e b) := by simp [isC]
theorem isV_of {c b : List UInt8} {u e : Nat} (h : e = 0 → u ≤ b.length ∧ b.take u = c) : isV c u e b = true := by
  unfold isV
  by_cases he : e = 0
  · obtain ⟨h1, h2⟩ := h he
    subst h2
    have : (decide ((0 : Int) ≤ u) && decide ((u : Int) ≤ b.length)) = true := by simp; omega
    rw [this]; simp
  · have : ((e : Int) != 0) = true := by simp [he]
    rw [this]; simp
end Go.Abs
end

section
namespace Go.Abs
set_option maxRecDepth 100000
def maxV (x y : AVal) : AVal := match x, y with | .lit (.int k a), .lit (.int _ b) => .lit (.int k (if b > a then b else a)) | _, _ => .undef
theorem eff_max2 (E : Env) (get : Nat → AVal) (getB : Nat → Option (List AVal)) (x y : Arg) : eff E get getB (.max2 x y) = { val := maxV (arg E get x) (arg E get y) } := rfl
theorem maxV_i64 (a b : Int) : maxV (i64 a) (i64 b) = i64 (if b > a then b else a) := rfl
theorem is_ok (E : Env) (h38 : E.G 38 = sameC) : ∀ ds, isC.pre ds → ds.length = f_custodylaw01_WireCanonical_1.n ∧ awp E f_custodylaw01_WireCanonical_1.body (retQ f_custodylaw01_WireCanonical_1.res (isC.post ds)) (initSt f_custodylaw01_WireCanonical_1.wr ds) := by
  rintro _ ⟨nc, nl, c, b, u, e, hc, hb, rfl⟩
  rw [show isC.post [.sl .plain nc c.length (bys c), i64 u, i64 e, .ep [.sl .plain nl b.length (bys b)]] = bo (isV c u e b) from is_post ..]
  by_cases he : e = 0
  · subst he
    by_cases h0 : 0 ≤ u
    · by_cases h1 : u ≤ b.length
      · have h2 : (if (b.length : Int) < u then (b.length : Int) else u) = u := if_neg (by omega)
        have h3 : (if u > 0 then u else 0) = u := by split <;> omega
        simp (maxSteps := 1000000) (disch := first | omega | (simp; done) | (simp; omega)) [W_id, bys_app, bys_snoc, f_custodylaw01_WireCanonical_1, h38, same_pre, isV, h0, h1, h2, h3, dT, dF, ↓eff_min2, minV_i64, ↓eff_max2, maxV_i64]
      · simp (maxSteps := 1000000) (disch := first | omega | (simp; done) | (simp; omega)) [W_id, bys_app, bys_snoc, f_custodylaw01_WireCanonical_1, h38, same_pre, isV, h0, h1, dT, dF]
    · simp (maxSteps := 1000000) (disch := first | omega | (simp; done) | (simp; omega)) [W_id, bys_app, bys_snoc, f_custodylaw01_WireCanonical_1, h38, same_pre, isV, h0, dT, dF]
  · have hbe : (e != 0) = true := by simpa using he
    simp (maxSteps := 1000000) (disch := first | omega | (simp; done) | (simp; omega)) [W_id, bys_app, bys_snoc, f_custodylaw01_WireCanonical_1, h38, same_pre, isV, hbe, dT, dF]
set_option maxHeartbeats 8000000 in
theorem law_Canon_ok (E : Env) (h63 : E.G 63 = sanC) (h68 : E.G 68 = isC) (h12 : E.G 12 = intC) (h7 : E.G 7 = bytesC) (h39 : E.G 39 = wIntsC) (h41 : E.G 41 = wStrsC) (h43 : E.G 43 = wDigsC) (h45 : E.G 45 = getIntC) (h48 : E.G 48 = getBytesC) (h52 : E.G 52 = getIntsC) (h55 : E.G 55 = getStrsC) (h58 : E.G 58 = getDigsC) : ∀ ds, lawB.pre ds → ds.length = f_custodylaw01_WireCanonical.n ∧ awp E f_custodylaw01_WireCanonical.body (retQ f_custodylaw01_WireCanonical.res (lawB.post ds)) (initSt f_custodylaw01_WireCanonical.wr ds) := by
  rintro _ ⟨nl, b, rfl⟩
  simp (maxSteps := 1000000) (disch := first | omega | (simp; done) | (simp; omega)) [W_id, bys_app, bys_snoc, f_custodylaw01_WireCanonical, h63, lawB, trueC]
  rw [awp_cond]
  refine ⟨by simp, fun h => ?_, fun h => ?_⟩ <;> simp at h
  · simp (maxSteps := 1000000) (disch := first | omega | (simp; done) | (simp; omega)) [W_id, bys_app, bys_snoc, h63]
  have hb : b.length ≤ 2000 := by omega
  obtain ⟨g1, g2, i0, i1⟩ := getI_used b
  obtain ⟨g3, g4⟩ := getS_used b
  have g5 := getLs_len getI b
  have g6 := getIs_mem b
  have g7 := getSs_tot b
  obtain ⟨g8, g9⟩ := getD16_len b
  have l1 := encI_len ⟨i0, i1⟩
  have l2 := encS_le (s := (getS b).1) (by omega)
  have l3 := encIs_len g6 (by omega)
  have l5 := encDs_len (k := (getD16 b).1.length / 16) (d := (getD16 b).1) (by omega)
  have v1 : isV (encI (getI b).1) (getI b).2.1 (getI b).2.2 b = true := isV_of fun h => ⟨(getI_ok' b h).1, (getI_ok' b h).2.1⟩
  have v2 : isV (encS (getS b).1) (getS b).2.1 (getS b).2.2 b = true := isV_of fun h => ⟨(getS_ok' b h).1, (getS_ok' b h).2.1⟩
  have v3 : isV (encIs (getLs getI 1 b).1) (getLs getI 1 b).2.1 (getLs getI 1 b).2.2 b = true := isV_of fun h => ⟨(getLs_ok getI_ok' h).1, (getLs_ok getI_ok' h).2.1⟩
  have v4 : isV (encSs (getLs getS 1 b).1) (getLs getS 1 b).2.1 (getLs getS 1 b).2.2 b = true := isV_of fun h => ⟨(getSs_ok h).1, (getSs_ok h).2.1⟩
  have v5 : isV (encDs ((getD16 b).1.length / 16) (getD16 b).1) (getD16 b).2.1 (getD16 b).2.2 b = true := isV_of fun h => getD_ok' b h
  have l4 : (encSs (getLs getS 1 b).1).length ≤ 1000000 := by
    have h1 := len_flatMap_encS (l := (getLs getS 1 b).1) (by omega)
    have h2 := len_le_totS (getLs getS 1 b).1
    have h3 := encI_len (isI64_nat (n := (getLs getS 1 b).1.length) (by omega))
    rw [encSs, List.length_append]; omega
  simp (maxSteps := 1000000) (disch := first | omega | (simp; done) | (simp; omega)) [W_id, bys_app, bys_snoc, f_custodylaw01_WireCanonical_r0, h63, h68, h12, h7, h39, h41, h43, h45, h48, h52, h55, h58, int_pre, bytes_pre, wIntsC, wStrsC, wDigsC, onIs_pre, onSs_pre, onDs_pre, own1, getIntC, getBytesC, getIntsC, getStrsC, getDigsC, onB_pre, vI, vIs, vSs, vD, tri_def, is_pre, v1, v2, v3, v4, v5]
end Go.Abs
end
