/- Lemmas: an abstract interpreter, and what the functions compute. -/
import Derived.Test.YtdmindmelaemjaaC
import Derived.Test.YtdmindmelaemjaaH
set_option linter.unusedSimpArgs false
set_option linter.unusedVariables false
set_option linter.unusedSectionVars false
section
namespace Go.Abs
set_option maxRecDepth 100000
/-- custody custodylaw01.WireListRoundTrip = 70; calls custodylaw01.few = 62, custodylaw01.sanity = 63, custodyref01.SameDigests = 60, custodyref01.SameInts = 54, custodyref01.SameTexts = 57, wire.Bytes = 7, wire.Digests = 43, wire.GetBytes = 48, wire.GetDigests = 58, wire.GetInts = 52, wire.GetStrings = 55, wire.Ints = 39, wire.Strings = 41 -/
def f_custodylaw01_WireListRoundTrip_r1 : ACode :=
  .cond (.s 43) (
    .seq (
      .region [10] [] [
        ⟨(some 44), none, .call 63 [] []⟩,
        ⟨(some 10), none, .mv false (.s 44)⟩]) (
    .ret)) (
    .ghost (.keep []) .skip)
def f_custodylaw01_WireListRoundTrip_r7 : ACode :=
  .seq (
    .region [10] [] [
      ⟨(some 105), none, .call 63 [] []⟩,
      ⟨(some 106), none, .mv false (.s 105)⟩,
      ⟨(some 107), (some (106, true)), .mv true (.s 24)⟩,
      ⟨(some 108), (some (106, true)), .mv false (.s 2)⟩,
      ⟨(some 109), (some (106, true)), .call 57 [(.s 107), (.s 108)] []⟩,
      ⟨(some 110), none, .pick (.s 106) (.s 109) (.c (bo false))⟩,
      ⟨(some 111), none, .mv false (.s 110)⟩,
      ⟨(some 112), (some (111, true)), .mv false (.s 25)⟩,
      ⟨(some 113), (some (111, true)), .mv true (.s 14)⟩,
      ⟨(some 114), (some (111, true)), .len false (.s 113)⟩,
      ⟨(some 115), (some (111, true)), .bin .eql (.s 112) (.s 114)⟩,
      ⟨(some 116), none, .pick (.s 111) (.s 115) (.c (bo false))⟩,
      ⟨(some 117), none, .mv false (.s 116)⟩,
      ⟨(some 118), (some (117, true)), .mv false (.s 26)⟩,
      ⟨(some 119), (some (117, true)), .bin .eql (.s 118) (.c (i64 0))⟩,
      ⟨(some 120), none, .pick (.s 117) (.s 119) (.c (bo false))⟩,
      ⟨(some 121), none, .mv false (.s 120)⟩,
      ⟨(some 122), (some (121, true)), .mv false (.s 15)⟩,
      ⟨(some 123), (some (121, true)), .mv false (.s 0)⟩,
      ⟨(some 124), (some (121, true)), .bin .eql (.s 122) (.s 123)⟩,
      ⟨(some 125), none, .pick (.s 121) (.s 124) (.c (bo false))⟩,
      ⟨(some 126), none, .mv false (.s 125)⟩,
      ⟨(some 127), (some (126, true)), .mv false (.s 16)⟩,
      ⟨(some 128), (some (126, true)), .mv true (.s 11)⟩,
      ⟨(some 129), (some (126, true)), .len false (.s 128)⟩,
      ⟨(some 130), (some (126, true)), .bin .eql (.s 127) (.s 129)⟩,
      ⟨(some 131), none, .pick (.s 126) (.s 130) (.c (bo false))⟩,
      ⟨(some 132), none, .mv false (.s 131)⟩,
      ⟨(some 133), (some (132, true)), .mv false (.s 17)⟩,
      ⟨(some 134), (some (132, true)), .bin .eql (.s 133) (.c (i64 0))⟩,
      ⟨(some 135), none, .pick (.s 132) (.s 134) (.c (bo false))⟩,
      ⟨(some 136), none, .mv false (.s 135)⟩,
      ⟨(some 137), (some (136, true)), .mv true (.s 18)⟩,
      ⟨(some 138), (some (136, true)), .mv false (.s 1)⟩,
      ⟨(some 139), (some (136, true)), .call 54 [(.s 137), (.s 138)] []⟩,
      ⟨(some 140), none, .pick (.s 136) (.s 139) (.c (bo false))⟩,
      ⟨(some 141), none, .mv false (.s 140)⟩,
      ⟨(some 142), (some (141, true)), .mv false (.s 19)⟩,
      ⟨(some 143), (some (141, true)), .mv true (.s 12)⟩,
      ⟨(some 144), (some (141, true)), .len false (.s 143)⟩,
      ⟨(some 145), (some (141, true)), .bin .eql (.s 142) (.s 144)⟩,
      ⟨(some 146), none, .pick (.s 141) (.s 145) (.c (bo false))⟩,
      ⟨(some 147), none, .mv false (.s 146)⟩,
      ⟨(some 148), (some (147, true)), .mv false (.s 20)⟩,
      ⟨(some 149), (some (147, true)), .bin .eql (.s 148) (.c (i64 0))⟩,
      ⟨(some 150), none, .pick (.s 147) (.s 149) (.c (bo false))⟩,
      ⟨(some 151), none, .mv false (.s 150)⟩,
      ⟨(some 152), (some (151, true)), .mv true (.s 21)⟩,
      ⟨(some 153), (some (151, true)), .mv false (.s 3)⟩,
      ⟨(some 154), (some (151, true)), .call 60 [(.s 152), (.s 153)] []⟩,
      ⟨(some 155), none, .pick (.s 151) (.s 154) (.c (bo false))⟩,
      ⟨(some 156), none, .mv false (.s 155)⟩,
      ⟨(some 157), (some (156, true)), .mv false (.s 22)⟩,
      ⟨(some 158), (some (156, true)), .mv true (.s 13)⟩,
      ⟨(some 159), (some (156, true)), .len false (.s 158)⟩,
      ⟨(some 160), (some (156, true)), .bin .eql (.s 157) (.s 159)⟩,
      ⟨(some 161), none, .pick (.s 156) (.s 160) (.c (bo false))⟩,
      ⟨(some 162), none, .mv false (.s 161)⟩,
      ⟨(some 163), (some (162, true)), .mv false (.s 23)⟩,
      ⟨(some 164), (some (162, true)), .bin .eql (.s 163) (.c (i64 0))⟩,
      ⟨(some 165), none, .pick (.s 162) (.s 164) (.c (bo false))⟩,
      ⟨(some 10), none, .mv false (.s 165)⟩]) (
  .ret)
def f_custodylaw01_WireListRoundTrip_r6 : ACode :=
  .seq (
    .region [11, 12, 13, 14, 15, 16, 17, 18, 19, 20, 21, 22, 23, 24, 25, 26] [] [
      ⟨(some 93), none, .mv false (.s 14)⟩,
      ⟨(some 94), none, .mv false (.s 14)⟩,
      ⟨(some 95), none, .len false (.s 94)⟩,
      ⟨(some 96), none, .mv false (.s 14)⟩,
      ⟨(some 97), none, .len false (.s 96)⟩,
      ⟨(some 98), none, .slSl 1 (.s 93) none (some (.s 95)) (some (.s 97))⟩,
      ⟨(some 99), none, .mv false (.s 4)⟩,
      ⟨(some 100), none, .appendC 1 1 false none none (.s 98) (.s 99)⟩,
      ⟨(some 101), none, .call 55 [(.s 100)] []⟩,
      ⟨(some 92), none, .mv false (.s 101)⟩,
      ⟨(some 102), none, .extract 0 (.s 92)⟩,
      ⟨(some 103), none, .extract 1 (.s 92)⟩,
      ⟨(some 104), none, .extract 2 (.s 92)⟩,
      ⟨(some 24), none, .mv true (.s 102)⟩,
      ⟨(some 25), none, .mv false (.s 103)⟩,
      ⟨(some 26), none, .mv false (.s 104)⟩]) (
  f_custodylaw01_WireListRoundTrip_r7)
def f_custodylaw01_WireListRoundTrip_r5 : ACode :=
  .seq (
    .region [11, 12, 13, 14, 15, 16, 17, 18, 19, 20, 21, 22, 23] [] [
      ⟨(some 80), none, .mv false (.s 13)⟩,
      ⟨(some 81), none, .mv false (.s 13)⟩,
      ⟨(some 82), none, .len false (.s 81)⟩,
      ⟨(some 83), none, .mv false (.s 13)⟩,
      ⟨(some 84), none, .len false (.s 83)⟩,
      ⟨(some 85), none, .slSl 1 (.s 80) none (some (.s 82)) (some (.s 84))⟩,
      ⟨(some 86), none, .mv false (.s 4)⟩,
      ⟨(some 87), none, .appendC 1 1 false none none (.s 85) (.s 86)⟩,
      ⟨(some 88), none, .call 58 [(.s 87)] []⟩,
      ⟨(some 79), none, .mv false (.s 88)⟩,
      ⟨(some 89), none, .extract 0 (.s 79)⟩,
      ⟨(some 90), none, .extract 1 (.s 79)⟩,
      ⟨(some 91), none, .extract 2 (.s 79)⟩,
      ⟨(some 21), none, .mv true (.s 89)⟩,
      ⟨(some 22), none, .mv false (.s 90)⟩,
      ⟨(some 23), none, .mv false (.s 91)⟩]) (
  f_custodylaw01_WireListRoundTrip_r6)
def f_custodylaw01_WireListRoundTrip_r4 : ACode :=
  .seq (
    .region [11, 12, 13, 14, 15, 16, 17, 18, 19, 20] [] [
      ⟨(some 67), none, .mv false (.s 12)⟩,
      ⟨(some 68), none, .mv false (.s 12)⟩,
      ⟨(some 69), none, .len false (.s 68)⟩,
      ⟨(some 70), none, .mv false (.s 12)⟩,
      ⟨(some 71), none, .len false (.s 70)⟩,
      ⟨(some 72), none, .slSl 1 (.s 67) none (some (.s 69)) (some (.s 71))⟩,
      ⟨(some 73), none, .mv false (.s 4)⟩,
      ⟨(some 74), none, .appendC 1 1 false none none (.s 72) (.s 73)⟩,
      ⟨(some 75), none, .call 52 [(.s 74)] []⟩,
      ⟨(some 66), none, .mv false (.s 75)⟩,
      ⟨(some 76), none, .extract 0 (.s 66)⟩,
      ⟨(some 77), none, .extract 1 (.s 66)⟩,
      ⟨(some 78), none, .extract 2 (.s 66)⟩,
      ⟨(some 18), none, .mv true (.s 76)⟩,
      ⟨(some 19), none, .mv false (.s 77)⟩,
      ⟨(some 20), none, .mv false (.s 78)⟩]) (
  f_custodylaw01_WireListRoundTrip_r5)
def f_custodylaw01_WireListRoundTrip_r3 : ACode :=
  .seq (
    .region [11, 12, 13, 14, 15, 16, 17] [] [
      ⟨(some 54), none, .mv false (.s 11)⟩,
      ⟨(some 55), none, .mv false (.s 11)⟩,
      ⟨(some 56), none, .len false (.s 55)⟩,
      ⟨(some 57), none, .mv false (.s 11)⟩,
      ⟨(some 58), none, .len false (.s 57)⟩,
      ⟨(some 59), none, .slSl 1 (.s 54) none (some (.s 56)) (some (.s 58))⟩,
      ⟨(some 60), none, .mv false (.s 4)⟩,
      ⟨(some 61), none, .appendC 1 1 false none none (.s 59) (.s 60)⟩,
      ⟨(some 62), none, .call 48 [(.s 61)] []⟩,
      ⟨(some 53), none, .mv false (.s 62)⟩,
      ⟨(some 63), none, .extract 0 (.s 53)⟩,
      ⟨(some 64), none, .extract 1 (.s 53)⟩,
      ⟨(some 65), none, .extract 2 (.s 53)⟩,
      ⟨(some 15), none, .mv false (.s 63)⟩,
      ⟨(some 16), none, .mv false (.s 64)⟩,
      ⟨(some 17), none, .mv false (.s 65)⟩]) (
  f_custodylaw01_WireListRoundTrip_r4)
def f_custodylaw01_WireListRoundTrip_r2 : ACode :=
  .seq (
    .region [11, 12, 13, 14] [] [
      ⟨(some 45), none, .mv false (.s 0)⟩,
      ⟨(some 46), none, .call 7 [(.s 45)] []⟩,
      ⟨(some 47), none, .mv false (.s 1)⟩,
      ⟨(some 48), none, .call 39 [(.s 47)] []⟩,
      ⟨(some 49), none, .mv false (.s 3)⟩,
      ⟨(some 50), none, .call 43 [(.s 49)] []⟩,
      ⟨(some 51), none, .mv false (.s 2)⟩,
      ⟨(some 52), none, .call 41 [(.s 51)] []⟩,
      ⟨(some 11), none, .mv true (.s 46)⟩,
      ⟨(some 12), none, .mv true (.s 48)⟩,
      ⟨(some 13), none, .mv true (.s 50)⟩,
      ⟨(some 14), none, .mv true (.s 52)⟩]) (
  f_custodylaw01_WireListRoundTrip_r3)
def f_custodylaw01_WireListRoundTrip_r0 : ACode :=
  .seq (
    .seq (
      .region [43] [] [
        ⟨(some 27), none, .mv false (.s 0)⟩,
        ⟨(some 28), none, .len true (.s 27)⟩,
        ⟨(some 29), none, .mv false (.s 1)⟩,
        ⟨(some 30), none, .len false (.s 29)⟩,
        ⟨(some 31), none, .bin .add (.s 28) (.s 30)⟩,
        ⟨(some 32), none, .mv false (.s 3)⟩,
        ⟨(some 33), none, .len false (.s 32)⟩,
        ⟨(some 34), none, .bin .add (.s 31) (.s 33)⟩,
        ⟨(some 35), none, .mv false (.s 4)⟩,
        ⟨(some 36), none, .len false (.s 35)⟩,
        ⟨(some 37), none, .bin .add (.s 34) (.s 36)⟩,
        ⟨(some 38), none, .bin .gtr (.s 37) (.c (i64 2000))⟩,
        ⟨(some 39), none, .mv false (.s 38)⟩,
        ⟨(some 40), (some (39, false)), .mv false (.s 2)⟩,
        ⟨(some 41), (some (39, false)), .call 62 [(.s 40)] []⟩,
        ⟨(some 42), (some (39, false)), .un .not (.s 41)⟩,
        ⟨(some 43), none, .pick (.s 39) (.c (bo true)) (.s 42)⟩]) (
    f_custodylaw01_WireListRoundTrip_r1)) (
  f_custodylaw01_WireListRoundTrip_r2)
def f_custodylaw01_WireListRoundTrip : AFun :=
 { n := 5, wr := [], res := [.t 10], body :=
    .seq (
      .region [] [] [
        ⟨(some 10), none, .mv false (.c (bo false))⟩]) (
    f_custodylaw01_WireListRoundTrip_r0) }

/-- custody custodylaw01.WireTruncated = 71; calls custodylaw01.few = 62, custodylaw01.sanity = 63, wire.Bytes = 7, wire.Digests = 43, wire.GetBytes = 48, wire.GetDigests = 58, wire.GetInt = 45, wire.GetInts = 52, wire.GetStrings = 55, wire.Int = 12, wire.Ints = 39, wire.Strings = 41 -/
def f_custodylaw01_WireTruncated_r1 : ACode :=
  .cond (.s 35) (
    .seq (
      .region [10] [] [
        ⟨(some 36), none, .call 63 [] []⟩,
        ⟨(some 10), none, .mv false (.s 36)⟩]) (
    .ret)) (
    .ghost (.keep []) .skip)
def f_custodylaw01_WireTruncated_r16 : ACode :=
  .cond (.s 99) (
    .region [11, 12, 14, 47, 48, 49, 56, 57] [] [
      ⟨(some 102), none, .mv false (.s 12)⟩,
      ⟨(some 103), none, .mv false (.s 13)⟩,
      ⟨(some 104), none, .slSl 1 (.s 102) none (some (.s 103)) none⟩,
      ⟨(some 105), none, .call 55 [(.s 104)] []⟩,
      ⟨(some 101), none, .mv false (.s 105)⟩,
      ⟨(some 106), none, .extract 0 (.s 101)⟩,
      ⟨(some 107), none, .extract 1 (.s 101)⟩,
      ⟨(some 108), none, .extract 2 (.s 101)⟩,
      ⟨(some 14), none, .mv false (.s 108)⟩]) (
    .region [11, 12, 14, 47, 48, 49, 56, 57] [] [
      ⟨(some 62), none, .mv false (.s 12)⟩,
      ⟨(some 63), none, .mv false (.s 13)⟩,
      ⟨(some 64), none, .slSl 1 (.s 62) none (some (.s 63)) none⟩,
      ⟨(some 65), none, .call 58 [(.s 64)] []⟩,
      ⟨(some 61), none, .mv false (.s 65)⟩,
      ⟨(some 66), none, .extract 0 (.s 61)⟩,
      ⟨(some 67), none, .extract 1 (.s 61)⟩,
      ⟨(some 68), none, .extract 2 (.s 61)⟩,
      ⟨(some 14), none, .mv false (.s 68)⟩])
def f_custodylaw01_WireTruncated_r15 : ACode :=
  .cond (.s 89) (
    .region [11, 12, 14, 47, 48, 49, 56, 57] [] [
      ⟨(some 92), none, .mv false (.s 12)⟩,
      ⟨(some 93), none, .mv false (.s 13)⟩,
      ⟨(some 94), none, .slSl 1 (.s 92) none (some (.s 93)) none⟩,
      ⟨(some 95), none, .call 52 [(.s 94)] []⟩,
      ⟨(some 91), none, .mv false (.s 95)⟩,
      ⟨(some 96), none, .extract 0 (.s 91)⟩,
      ⟨(some 97), none, .extract 1 (.s 91)⟩,
      ⟨(some 98), none, .extract 2 (.s 91)⟩,
      ⟨(some 14), none, .mv false (.s 98)⟩]) (
    .seq (
      .region [11, 12, 13, 47, 48, 49, 56, 57, 99] [] [
        ⟨(some 100), none, .bin .eql (.s 60) (.c (i64 3))⟩,
        ⟨(some 99), none, .mv false (.s 100)⟩]) (
    f_custodylaw01_WireTruncated_r16))
def f_custodylaw01_WireTruncated_r14 : ACode :=
  .cond (.s 79) (
    .region [11, 12, 14, 47, 48, 49, 56, 57] [] [
      ⟨(some 82), none, .mv false (.s 12)⟩,
      ⟨(some 83), none, .mv false (.s 13)⟩,
      ⟨(some 84), none, .slSl 1 (.s 82) none (some (.s 83)) none⟩,
      ⟨(some 85), none, .call 48 [(.s 84)] []⟩,
      ⟨(some 81), none, .mv false (.s 85)⟩,
      ⟨(some 86), none, .extract 0 (.s 81)⟩,
      ⟨(some 87), none, .extract 1 (.s 81)⟩,
      ⟨(some 88), none, .extract 2 (.s 81)⟩,
      ⟨(some 14), none, .mv false (.s 88)⟩]) (
    .seq (
      .region [11, 12, 13, 47, 48, 49, 56, 57, 60, 89] [] [
        ⟨(some 90), none, .bin .eql (.s 60) (.c (i64 2))⟩,
        ⟨(some 89), none, .mv false (.s 90)⟩]) (
    f_custodylaw01_WireTruncated_r15))
def f_custodylaw01_WireTruncated_r13 : ACode :=
  .cond (.s 69) (
    .region [11, 12, 14, 47, 48, 49, 56, 57] [] [
      ⟨(some 72), none, .mv false (.s 12)⟩,
      ⟨(some 73), none, .mv false (.s 13)⟩,
      ⟨(some 74), none, .slSl 1 (.s 72) none (some (.s 73)) none⟩,
      ⟨(some 75), none, .call 45 [(.s 74)] []⟩,
      ⟨(some 71), none, .mv false (.s 75)⟩,
      ⟨(some 76), none, .extract 0 (.s 71)⟩,
      ⟨(some 77), none, .extract 1 (.s 71)⟩,
      ⟨(some 78), none, .extract 2 (.s 71)⟩,
      ⟨(some 14), none, .mv false (.s 78)⟩]) (
    .seq (
      .region [11, 12, 13, 47, 48, 49, 56, 57, 60, 79] [] [
        ⟨(some 80), none, .bin .eql (.s 60) (.c (i64 1))⟩,
        ⟨(some 79), none, .mv false (.s 80)⟩]) (
    f_custodylaw01_WireTruncated_r14))
def f_custodylaw01_WireTruncated_r12 : ACode :=
  .block 4 (
    .seq (
      .region [11, 12, 13, 47, 48, 49, 56, 57, 60, 69] [] [
        ⟨(some 70), none, .bin .eql (.s 60) (.c (i64 0))⟩,
        ⟨(some 69), none, .mv false (.s 70)⟩]) (
    f_custodylaw01_WireTruncated_r13))
def f_custodylaw01_WireTruncated_r18 : ACode :=
  .cond (.s 110) (
    .seq (
      .region [10] [] [
        ⟨(some 10), none, .mv false (.c (bo false))⟩]) (
    .ret)) (
    .ghost (.keep [11, 12, 47, 48, 49, 56, 57]) .skip)
def f_custodylaw01_WireTruncated_r17 : ACode :=
  .seq (
    .region [11, 12, 47, 48, 49, 56, 57, 110] [] [
      ⟨(some 109), none, .mv false (.s 14)⟩,
      ⟨(some 110), none, .bin .neq (.s 109) (.c (i64 5))⟩]) (
  f_custodylaw01_WireTruncated_r18)
def f_custodylaw01_WireTruncated_r11 : ACode :=
  .seq (
    .seq (
      .region [11, 12, 13, 47, 48, 49, 56, 57, 60] [] [
        ⟨(some 60), none, .mv false (.s 11)⟩]) (
    f_custodylaw01_WireTruncated_r12)) (
  f_custodylaw01_WireTruncated_r17)
def f_custodylaw01_WireTruncated_r10 : ACode :=
  .seq (
    .region [11, 12, 13, 47, 48, 49, 56, 57] [] [
      ⟨(some 14), none, .mv false (.c (i64 0))⟩]) (
  f_custodylaw01_WireTruncated_r11)
def f_custodylaw01_WireTruncated_r9 : ACode :=
  .seq (
    .block 3 (
      .seq (
        .region [11, 12, 13, 47, 48, 49, 56, 57] [] [
          ⟨(some 59), none, .mv false (.s 57)⟩,
          ⟨(some 13), none, .mv false (.s 59)⟩]) (
      f_custodylaw01_WireTruncated_r10))) (
  .region [11, 12, 47, 48, 49, 56, 57] [] [
    ⟨(some 111), none, .bin .add (.s 57) (.c (i64 1))⟩,
    ⟨(some 57), none, .mv false (.s 111)⟩])
def f_custodylaw01_WireTruncated_r8 : ACode :=
  .seq (
    .cond (.s 58) (
      .ghost (.keep [11, 12, 47, 48, 49, 56, 57]) .skip) (
      .ghost (.keep [47, 48, 49]) (.exit 2))) (
  f_custodylaw01_WireTruncated_r9)
def f_custodylaw01_WireTruncated_l1 : ACode :=
  .seq (
    .region [11, 12, 47, 48, 49, 56, 57, 58] [] [
      ⟨(some 58), none, .bin .lss (.s 57) (.s 56)⟩]) (
  f_custodylaw01_WireTruncated_r8)
def f_custodylaw01_WireTruncated_r7 : ACode :=
  .block 2 (
    .loop f_custodylaw01_WireTruncated_l1)
def f_custodylaw01_WireTruncated_r6 : ACode :=
  .seq (
    .region [11, 12, 47, 48, 49, 56, 57] [] [
      ⟨(some 54), none, .mv false (.s 12)⟩,
      ⟨(some 55), none, .len false (.s 54)⟩,
      ⟨(some 56), none, .min2 (.s 55) (.c (i64 500))⟩,
      ⟨(some 57), none, .mv false (.c (i64 0))⟩]) (
  f_custodylaw01_WireTruncated_r7)
def f_custodylaw01_WireTruncated_r5 : ACode :=
  .seq (
    .block 1 (
      .seq (
        .region [11, 12, 47, 48, 49] [] [
          ⟨(some 51), none, .mv false (.s 49)⟩,
          ⟨(some 52), none, .idxSl 1 (.s 47) (.s 49)⟩,
          ⟨(some 53), none, .load none none false (.s 52)⟩,
          ⟨(some 11), none, .mv false (.s 51)⟩,
          ⟨(some 12), none, .mv true (.s 53)⟩]) (
      f_custodylaw01_WireTruncated_r6))) (
  .region [47, 48, 49] [] [
    ⟨(some 112), none, .bin .add (.s 49) (.c (i64 1))⟩,
    ⟨(some 49), none, .mv false (.s 112)⟩])
def f_custodylaw01_WireTruncated_r4 : ACode :=
  .seq (
    .cond (.s 50) (
      .ghost (.keep [47, 48, 49]) .skip) (
      .ghost (.keep []) (.exit 0))) (
  f_custodylaw01_WireTruncated_r5)
def f_custodylaw01_WireTruncated_l0 : ACode :=
  .seq (
    .region [47, 48, 49, 50] [] [
      ⟨(some 50), none, .bin .lss (.s 49) (.s 48)⟩]) (
  f_custodylaw01_WireTruncated_r4)
def f_custodylaw01_WireTruncated_r3 : ACode :=
  .block 0 (
    .loop f_custodylaw01_WireTruncated_l0)
def f_custodylaw01_WireTruncated_r19 : ACode :=
  .seq (
    .region [10] [] [
      ⟨(some 113), none, .call 63 [] []⟩,
      ⟨(some 10), none, .mv false (.s 113)⟩]) (
  .ret)
def f_custodylaw01_WireTruncated_r2 : ACode :=
  .seq (
    .seq (
      .region [47, 48, 49] [] [
        ⟨(some 37), none, .mv false (.s 0)⟩,
        ⟨(some 38), none, .call 12 [(.s 37)] []⟩,
        ⟨(some 39), none, .mv false (.s 1)⟩,
        ⟨(some 40), none, .call 7 [(.s 39)] []⟩,
        ⟨(some 41), none, .mv false (.s 2)⟩,
        ⟨(some 42), none, .call 39 [(.s 41)] []⟩,
        ⟨(some 43), none, .mv false (.s 3)⟩,
        ⟨(some 44), none, .call 41 [(.s 43)] []⟩,
        ⟨(some 45), none, .mv false (.s 4)⟩,
        ⟨(some 46), none, .call 43 [(.s 45)] []⟩,
        ⟨(some 47), none, .buildSl 1 5 [.sl (.own 1) none 0 [], .sl (.own 1) none 0 [], .sl (.own 1) none 0 [], .sl (.own 1) none 0 [], .sl (.own 1) none 0 []] [(0, 1, (.s 38)), (1, 1, (.s 40)), (2, 1, (.s 42)), (3, 1, (.s 44)), (4, 1, (.s 46))]⟩,
        ⟨(some 48), none, .len false (.s 47)⟩,
        ⟨(some 49), none, .mv false (.c (i64 0))⟩]) (
    f_custodylaw01_WireTruncated_r3)) (
  f_custodylaw01_WireTruncated_r19)
def f_custodylaw01_WireTruncated_r0 : ACode :=
  .seq (
    .seq (
      .region [35] [] [
        ⟨(some 15), none, .mv false (.s 1)⟩,
        ⟨(some 16), none, .len true (.s 15)⟩,
        ⟨(some 17), none, .mv false (.s 2)⟩,
        ⟨(some 18), none, .len false (.s 17)⟩,
        ⟨(some 19), none, .bin .mul (.c (i64 9)) (.s 18)⟩,
        ⟨(some 20), none, .bin .add (.s 16) (.s 19)⟩,
        ⟨(some 21), none, .mv false (.s 4)⟩,
        ⟨(some 22), none, .len false (.s 21)⟩,
        ⟨(some 23), none, .bin .mul (.c (i64 16)) (.s 22)⟩,
        ⟨(some 24), none, .bin .add (.s 20) (.s 23)⟩,
        ⟨(some 25), none, .bin .gtr (.s 24) (.c (i64 400))⟩,
        ⟨(some 26), none, .mv false (.s 25)⟩,
        ⟨(some 27), (some (26, false)), .mv false (.s 3)⟩,
        ⟨(some 28), (some (26, false)), .len false (.s 27)⟩,
        ⟨(some 29), (some (26, false)), .bin .gtr (.s 28) (.c (i64 40))⟩,
        ⟨(some 30), none, .pick (.s 26) (.c (bo true)) (.s 29)⟩,
        ⟨(some 31), none, .mv false (.s 30)⟩,
        ⟨(some 32), (some (31, false)), .mv false (.s 3)⟩,
        ⟨(some 33), (some (31, false)), .call 62 [(.s 32)] []⟩,
        ⟨(some 34), (some (31, false)), .un .not (.s 33)⟩,
        ⟨(some 35), none, .pick (.s 31) (.c (bo true)) (.s 34)⟩]) (
    f_custodylaw01_WireTruncated_r1)) (
  f_custodylaw01_WireTruncated_r2)
def f_custodylaw01_WireTruncated : AFun :=
 { n := 5, wr := [], res := [.t 10], body :=
    .seq (
      .region [] [] [
        ⟨(some 10), none, .mv false (.c (bo false))⟩]) (
    f_custodylaw01_WireTruncated_r0) }

end Go.Abs
end

section
namespace Go.Abs
set_option maxRecDepth 100000
def lawL5 : Contract := trueC fun ds => ∃ (s : List UInt8) (nl nx nd nt : Option Bool) (l : List Int) (x : List (List UInt8)) (k : Nat) (d tail : List UInt8), s.length ≤ 2000000 ∧ l.length ≤ 2000000 ∧ (∀ y ∈ l, isI64 y) ∧ few1 x ≤ 2000000 ∧ k ≤ 2000000 ∧ d.length = k * 16 ∧ tail.length ≤ 2000000 ∧
  ds = [st s, .sl .plain nl l.length (ints l), .sl .plain nx x.length (sts x), .sl .plain nd k (bys d), .sl .plain nt tail.length (bys tail)]
theorem encS_ne0 (s : List UInt8) : (encS s).length ≠ 0 := by have := encS_pos s; omega
theorem encIs_ne0 (l : List Int) : (encIs l).length ≠ 0 := by have := encI_pos l.length; rw [encIs, List.length_append]; omega
theorem encSs_ne0 (l : List (List UInt8)) : (encSs l).length ≠ 0 := by have := encI_pos l.length; rw [encSs, List.length_append]; omega
theorem encDs_ne0 (k : Nat) (d : List UInt8) : (encDs k d).length ≠ 0 := by have := encI_pos k; rw [encDs, List.length_append]; omega
theorem lens_mem {y : List UInt8} : ∀ {x : List (List UInt8)}, y ∈ x → y.length ≤ lensS x
  | [], h => by simp at h
  | z :: x, h => by
    simp only [lensS, List.map_cons, List.sum_cons]
    rcases List.mem_cons.1 h with rfl | h
    · omega
    · have := lens_mem h; simp only [lensS] at this; omega
set_option maxHeartbeats 8000000 in
theorem law_ListRound_ok (E : Env) (h63 : E.G 63 = sanC) (h62 : E.G 62 = fewsC) (h60 : E.G 60 = sameDC) (h54 : E.G 54 = sameIC) (h57 : E.G 57 = sameSC) (h7 : E.G 7 = bytesC) (h43 : E.G 43 = wDigsC) (h48 : E.G 48 = getBytesC) (h58 : E.G 58 = getDigsC) (h52 : E.G 52 = getIntsC) (h55 : E.G 55 = getStrsC) (h39 : E.G 39 = wIntsC) (h41 : E.G 41 = wStrsC) : ∀ ds, lawL5.pre ds → ds.length = f_custodylaw01_WireListRoundTrip.n ∧ awp E f_custodylaw01_WireListRoundTrip.body (retQ f_custodylaw01_WireListRoundTrip.res (lawL5.post ds)) (initSt f_custodylaw01_WireListRoundTrip.wr ds) := by
  rintro _ ⟨s, nl, nx, nd, nt, l, x, k, d, tail, hs, hl, hm, hx, hk, hd, ht, rfl⟩
  by_cases hg : 2000 < s.length + l.length + k + tail.length
  · simp (maxSteps := 1000000) (disch := first | omega | (simp; done) | (simp; omega)) [W_id, bys_app, bys_snoc, f_custodylaw01_WireListRoundTrip, f_custodylaw01_WireListRoundTrip_r0, h63, h62, lawL5, trueC, fews_pre, dT, dF]
    unfold f_custodylaw01_WireListRoundTrip_r1
    rw [awp_cond]
    refine ⟨by simp, fun h => ?_, fun h => ?_⟩ <;> simp at h
    simp (maxSteps := 1000000) (disch := first | omega | (simp; done) | (simp; omega)) [W_id, bys_app, bys_snoc, h63]
  by_cases hf : few1 x ≤ 2000
  · simp (maxSteps := 1000000) (disch := first | omega | (simp; done) | (simp; omega)) [W_id, bys_app, bys_snoc, f_custodylaw01_WireListRoundTrip, f_custodylaw01_WireListRoundTrip_r0, h63, h62, lawL5, trueC, fews_pre, hf, dT, dF]
    unfold f_custodylaw01_WireListRoundTrip_r1
    rw [awp_cond]
    refine ⟨by simp, fun h => ?_, fun h => ?_⟩ <;> simp at h
    clear h
    have h2 := encS_le (s := s) (by omega)
    have h3 := encIs_len hm (by omega)
    have h4 := encSs_len (x := x) (by omega)
    have h5 := encDs_len (k := k) (d := d) (by omega)
    have h6 := totS_few x
    have hxs : ∀ y ∈ x, y.length ≤ 9223372036854775807 := fun y hy => by
      have := lens_mem hy
      have := few1_eq x
      omega
    have hxl : x.length ≤ few1 x := by have := few1_eq x; omega
    have r1 := getS_enc (s := s) (by omega) tail
    have r2 := getIs_enc (l := l) (by omega) hm tail
    have r3 := getSs_enc (l := x) (by omega) hxs tail
    have r4 := getDs_enc (n := k) (by omega) hd tail
    have hdk : d.length / 16 = k := by omega
    have n1 := encS_ne0 s
    have n2 := encIs_ne0 l
    have n3 := encSs_ne0 x
    have n4 := encDs_ne0 k d
    simp (maxSteps := 1000000) (disch := first | omega | (simp; done) | (simp; omega)) [W_id, bys_app, bys_snoc, f_custodylaw01_WireListRoundTrip_r2, h7, h43, h39, h41, bytes_pre, wDigsC, wIntsC, wStrsC, onIs_pre, onSs_pre, onDs_pre, own1]
    generalize encS s = e1 at *
    generalize encIs l = e2 at *
    generalize encSs x = e3 at *
    generalize encDs k d = e4 at *
    simp (maxSteps := 1000000) (disch := first | omega | (simp; done) | (simp; omega)) [W_id, bys_app, bys_snoc, f_custodylaw01_WireListRoundTrip_r3, h48, getBytesC, onB_pre, own1, tri_def, n1, r1, dT, dF]
    simp (maxSteps := 1000000) (disch := first | omega | (simp; done) | (simp; omega)) [W_id, bys_app, bys_snoc, f_custodylaw01_WireListRoundTrip_r4, h52, getIntsC, onB_pre, own1, tri_def, vIs, n2, r2, dT, dF]
    refine ⟨by omega, by omega, ?_⟩
    simp (maxSteps := 1000000) (disch := first | omega | (simp; done) | (simp; omega)) [W_id, bys_app, bys_snoc, f_custodylaw01_WireListRoundTrip_r5, h58, getDigsC, onB_pre, own1, tri_def, vD, n4, r4, hdk, dT, dF]
    refine ⟨by omega, ?_⟩
    simp (maxSteps := 1000000) (disch := first | omega | (simp; done) | (simp; omega)) [W_id, bys_app, bys_snoc, f_custodylaw01_WireListRoundTrip_r6, h55, getStrsC, onB_pre, own1, tri_def, vSs, n3, r3, dT, dF]
    refine ⟨by omega, ?_⟩
    simp (maxSteps := 1000000) (disch := first | omega | (simp; done) | (simp; omega)) [W_id, bys_app, bys_snoc, f_custodylaw01_WireListRoundTrip_r7, h63, h60, h54, h57, sameI_pre, sameS_pre, sameD_pre, dT, dF]
  · simp (maxSteps := 1000000) (disch := first | omega | (simp; done) | (simp; omega)) [W_id, bys_app, bys_snoc, f_custodylaw01_WireListRoundTrip, f_custodylaw01_WireListRoundTrip_r0, h63, h62, lawL5, trueC, fews_pre, hf, dT, dF]
    unfold f_custodylaw01_WireListRoundTrip_r1
    rw [awp_cond]
    refine ⟨by simp, fun h => ?_, fun h => ?_⟩ <;> simp at h
    simp (maxSteps := 1000000) (disch := first | omega | (simp; done) | (simp; omega)) [W_id, bys_app, bys_snoc, h63]
end Go.Abs
end

section
namespace Go.Abs
theorem cnt_pre {n : Nat} (hn : n ≤ 9223372036854775807) {i : Nat} (hi : i < (encI n).length) (s : Nat) : cntE ((encI (n : Int)).take i) s = 5 := by
  unfold cntE; rw [getI_pre (isI64_nat hn) hi]; simp
theorem cnt_few {n s : Nat} (hn : n ≤ 9223372036854775807) (hs : 0 < s) {r : List UInt8} (h : r.length < n * s) : cntE (encI n ++ r) s = 5 := by
  have hg := getI_enc (isI64_nat hn) r
  unfold cntE
  rw [hg]
  simp only [ne_eq, not_true_eq_false, if_false, Int.toNat_natCast, List.length_append, Nat.add_sub_cancel_left]
  rw [if_neg (by omega), if_pos]
  rw [Nat.div_lt_iff_lt_mul hs]
  exact h
theorem take_app {a b : List UInt8} {i : Nat} (h : a.length ≤ i) : (a ++ b).take i = a ++ b.take (i - a.length) := by
  rw [List.take_append, List.take_of_length_le h]
theorem getS_cut {s : List UInt8} (h : s.length ≤ 9223372036854775807) {i : Nat} (hi : i < (encS s).length) : (getS ((encS s).take i)).2.2 = 5 := by
  have e : cntE ((encS s).take i) 1 = 5 := by
    rw [encS] at hi ⊢
    by_cases h1 : i < (encI (s.length : Int)).length
    · rw [List.take_append_of_le_length (by omega)]
      exact cnt_pre h h1 1
    · rw [take_app (by omega)]
      refine cnt_few h (by decide) ?_
      rw [List.length_append] at hi
      rw [List.length_take]; omega
  unfold getS
  rw [if_neg (by omega), e]
theorem getD_cut {n : Nat} {d : List UInt8} (hn : n ≤ 9223372036854775807) (hd : d.length = n * 16) {i : Nat} (hi : i < (encDs n d).length) : (getD16 ((encDs n d).take i)).2.2 = 5 := by
  have e : cntE ((encDs n d).take i) 16 = 5 := by
    rw [encDs] at hi ⊢
    by_cases h1 : i < (encI (n : Int)).length
    · rw [List.take_append_of_le_length (by omega)]
      exact cnt_pre hn h1 16
    · rw [take_app (by omega)]
      refine cnt_few hn (by decide) ?_
      rw [List.length_append] at hi
      rw [List.length_take]; omega
  unfold getD16
  rw [if_neg (by omega), e]
theorem getL_cut {α : Type} {f : List UInt8 → α × Nat × Nat} {enc : α → List UInt8} : ∀ (l : List α) (p : List UInt8) (j : Nat), (∀ x ∈ l, ∀ r, f (enc x ++ r) = (x, (enc x).length, 0)) → (∀ x ∈ l, ∀ i, i < (enc x).length → (f ((enc x).take i)).2.2 = 5) →
    j < (l.flatMap enc).length → (getL f l.length (p ++ (l.flatMap enc).take j) p.length).2.2 = 5
  | [], p, j, _, _, hj => by simp at hj
  | x :: l, p, j, h, h', hj => by
    rw [List.flatMap_cons] at hj ⊢
    rw [List.length_cons, getL, List.drop_left]
    by_cases h1 : j < (enc x).length
    · rw [List.take_append_of_le_length (by omega), if_pos (by rw [h' x (by simp) j h1]; decide), h' x (by simp) j h1]
    · rw [take_app (by omega), h x (by simp)]
      have ih := getL_cut l (p ++ enc x) (j - (enc x).length) (fun y hy => h y (by simp [hy])) (fun y hy => h' y (by simp [hy])) (by rw [List.length_append] at hj; omega)
      rw [List.length_append, List.append_assoc] at ih
      simp only [ne_eq, not_true_eq_false, if_false]
      rw [if_pos (by rw [ih]; decide), ih]
theorem getLs_cut {α : Type} {f : List UInt8 → α × Nat × Nat} {enc : α → List UInt8} {l : List α} (hl : l.length ≤ 9223372036854775807) (h : ∀ x ∈ l, ∀ r, f (enc x ++ r) = (x, (enc x).length, 0)) (h' : ∀ x ∈ l, ∀ i, i < (enc x).length → (f ((enc x).take i)).2.2 = 5)
    {i : Nat} (hi : i < (encI l.length ++ l.flatMap enc).length) : (getLs f 1 ((encI l.length ++ l.flatMap enc).take i)).2.2 = 5 := by
  unfold getLs
  by_cases h1 : i < (encI (l.length : Int)).length
  · rw [List.take_append_of_le_length (by omega)]
    have e := cnt_pre hl h1 1
    rw [if_neg (by omega), e]
  · rw [take_app (by omega)]
    rw [List.length_append] at hi
    have hg := getI_enc (isI64_nat hl) ((l.flatMap enc).take (i - (encI (l.length : Int)).length))
    rcases cnt_cases (encI l.length ++ (l.flatMap enc).take (i - (encI (l.length : Int)).length)) 1 (by decide) with (e | e) | ⟨e, _⟩
    · rw [if_neg (by omega), e]
    · exfalso
      unfold cntE at e
      rw [hg] at e
      simp only [ne_eq, not_true_eq_false, if_false] at e
      rw [if_neg (by omega)] at e
      split at e <;> simp at e
    · rw [if_pos e, hg, Int.toNat_natCast]
      exact getL_cut l _ _ h h' (by omega)
theorem getI_cut {n : Int} (h : isI64 n) {i : Nat} (hi : i < (encI n).length) : (getI ((encI n).take i)).2.2 = 5 := by rw [getI_pre h hi]
theorem getIs_cut {l : List Int} (hl : l.length ≤ 9223372036854775807) (h : ∀ x ∈ l, isI64 x) {i : Nat} (hi : i < (encIs l).length) : (getLs getI 1 ((encIs l).take i)).2.2 = 5 :=
  getLs_cut hl (fun x hx r => getI_enc (h x hx) r) (fun x hx i hi => getI_cut (h x hx) hi) hi
theorem getSs_cut {l : List (List UInt8)} (hl : l.length ≤ 9223372036854775807) (h : ∀ x ∈ l, x.length ≤ 9223372036854775807) {i : Nat} (hi : i < (encSs l).length) : (getLs getS 1 ((encSs l).take i)).2.2 = 5 :=
  getLs_cut hl (fun x hx r => getS_enc (h x hx) r) (fun x hx i hi => getS_cut (h x hx) hi) hi
end Go.Abs
end

section
namespace Go.Abs
set_option maxRecDepth 100000
theorem cT {E : Env} {c : Arg} {a b : ACode} {Q : AExit → ASt → Prop} {s : ASt} (h : arg E s.get c = bo true) : awp E (.cond c a b) Q s = awp E a Q s := by
  rw [awp_cond, h]; simp
theorem cF {E : Env} {c : Arg} {a b : ACode} {Q : AExit → ASt → Prop} {s : ASt} (h : arg E s.get c = bo false) : awp E (.cond c a b) Q s = awp E b Q s := by
  rw [awp_cond, h]; simp
theorem lens_mem' {y : List UInt8} : ∀ {x : List (List UInt8)}, y ∈ x → y.length ≤ lensS x
  | [], h => by simp at h
  | z :: x, h => by
    simp only [lensS, List.map_cons, List.sum_cons]
    rcases List.mem_cons.1 h with rfl | h
    · omega
    · have := lens_mem' h; simp only [lensS] at this; omega
set_option maxHeartbeats 4000000 in
theorem trunc_in0 {E : Env} (h45 : E.G 45 = getIntC) (A0 A1 A2 A3 A4 X : AVal) (e : List UInt8) (he : e.length ≤ 100000) (hr : ∀ {i : Nat}, i < e.length → (getI (List.take i e)).2.2 = 5) (Q : AExit → ASt → Prop)
    (hQ : Q .normal ⟨[(0, A0), (1, A1), (2, A2), (3, A3), (4, A4)], [(47, X), (48, i64 5), (49, i64 0)], []⟩) : awp E f_custodylaw01_WireTruncated_r6 Q ⟨[(0, A0), (1, A1), (2, A2), (3, A3), (4, A4)], [(11, i64 0), (12, AVal.sl Mode.plain (some false) e.length (bys e)), (47, X), (48, i64 5), (49, i64 0)], []⟩ := by
  obtain ⟨m, hm, hm1, hm2⟩ : ∃ m : Nat, (if (500 : Int) < (e.length : Int) then (500 : Int) else (e.length : Int)) = (m : Int) ∧ m ≤ e.length ∧ m ≤ 500 := by
    by_cases h : 500 < e.length
    · exact ⟨500, by rw [if_pos (by omega)]; rfl, by omega, by omega⟩
    · exact ⟨e.length, by rw [if_neg (by omega)], by omega, by omega⟩
  simp (maxSteps := 1000000) (disch := first | omega | (simp; done) | (simp; omega)) [W_id, bys_app, bys_snoc, f_custodylaw01_WireTruncated_r6, f_custodylaw01_WireTruncated_r7, ↓eff_min2, minV_i64, hm]
  refine awp_name fun Q2 hQ2 => ?_
  refine awp_for (fun i : Nat => ⟨[(0, A0), (1, A1), (2, A2), (3, A3), (4, A4)], [(11, i64 0), (12, AVal.sl Mode.plain (some false) e.length (bys e)), (47, X), (48, i64 5), (49, i64 0), (56, i64 m), (57, i64 i)], []⟩) (fun i => m - i) (· ≤ m) 0 (by simp) (by simp) fun i hi => ?_
  refine awp_name fun Q3 hQ3 => ?_
  simp (maxSteps := 1000000) (disch := first | omega | (simp; done) | (simp; omega)) [W_id, bys_app, bys_snoc, f_custodylaw01_WireTruncated_l1, f_custodylaw01_WireTruncated_r8]
  rw [awp_cond]
  refine ⟨by simp, fun h => ?_, fun h => ?_⟩ <;> simp at h
  · have hi : i < e.length := by omega
    have h5 := hr hi
    simp (maxSteps := 1000000) (disch := first | omega | (simp; done) | (simp; omega)) [W_id, bys_app, bys_snoc, f_custodylaw01_WireTruncated_r9, f_custodylaw01_WireTruncated_r10, f_custodylaw01_WireTruncated_r11, f_custodylaw01_WireTruncated_r12, f_custodylaw01_WireTruncated_r13, f_custodylaw01_WireTruncated_r14, f_custodylaw01_WireTruncated_r15, f_custodylaw01_WireTruncated_r16, f_custodylaw01_WireTruncated_r17, f_custodylaw01_WireTruncated_r18, h45, getIntC, vI, onB_pre, tri_def, h5, hQ3, cT, cF, dT, dF]
    exact ⟨by omega, i + 1, by omega, by omega, by omega⟩
  · simp (maxSteps := 1000000) (disch := first | omega | (simp; done) | (simp; omega)) [W_id, bys_app, bys_snoc, hQ3, hQ2, hQ]
set_option maxHeartbeats 4000000 in
theorem trunc_in1 {E : Env} (h48 : E.G 48 = getBytesC) (A0 A1 A2 A3 A4 X : AVal) (e : List UInt8) (he : e.length ≤ 100000) (hr : ∀ {i : Nat}, i < e.length → (getS (List.take i e)).2.2 = 5) (Q : AExit → ASt → Prop)
    (hQ : Q .normal ⟨[(0, A0), (1, A1), (2, A2), (3, A3), (4, A4)], [(47, X), (48, i64 5), (49, i64 1)], []⟩) : awp E f_custodylaw01_WireTruncated_r6 Q ⟨[(0, A0), (1, A1), (2, A2), (3, A3), (4, A4)], [(11, i64 1), (12, AVal.sl Mode.plain (some false) e.length (bys e)), (47, X), (48, i64 5), (49, i64 1)], []⟩ := by
  obtain ⟨m, hm, hm1, hm2⟩ : ∃ m : Nat, (if (500 : Int) < (e.length : Int) then (500 : Int) else (e.length : Int)) = (m : Int) ∧ m ≤ e.length ∧ m ≤ 500 := by
    by_cases h : 500 < e.length
    · exact ⟨500, by rw [if_pos (by omega)]; rfl, by omega, by omega⟩
    · exact ⟨e.length, by rw [if_neg (by omega)], by omega, by omega⟩
  simp (maxSteps := 1000000) (disch := first | omega | (simp; done) | (simp; omega)) [W_id, bys_app, bys_snoc, f_custodylaw01_WireTruncated_r6, f_custodylaw01_WireTruncated_r7, ↓eff_min2, minV_i64, hm]
  refine awp_name fun Q2 hQ2 => ?_
  refine awp_for (fun i : Nat => ⟨[(0, A0), (1, A1), (2, A2), (3, A3), (4, A4)], [(11, i64 1), (12, AVal.sl Mode.plain (some false) e.length (bys e)), (47, X), (48, i64 5), (49, i64 1), (56, i64 m), (57, i64 i)], []⟩) (fun i => m - i) (· ≤ m) 0 (by simp) (by simp) fun i hi => ?_
  refine awp_name fun Q3 hQ3 => ?_
  simp (maxSteps := 1000000) (disch := first | omega | (simp; done) | (simp; omega)) [W_id, bys_app, bys_snoc, f_custodylaw01_WireTruncated_l1, f_custodylaw01_WireTruncated_r8]
  rw [awp_cond]
  refine ⟨by simp, fun h => ?_, fun h => ?_⟩ <;> simp at h
  · have hi : i < e.length := by omega
    have h5 := hr hi
    simp (maxSteps := 1000000) (disch := first | omega | (simp; done) | (simp; omega)) [W_id, bys_app, bys_snoc, f_custodylaw01_WireTruncated_r9, f_custodylaw01_WireTruncated_r10, f_custodylaw01_WireTruncated_r11, f_custodylaw01_WireTruncated_r12, f_custodylaw01_WireTruncated_r13, f_custodylaw01_WireTruncated_r14, f_custodylaw01_WireTruncated_r15, f_custodylaw01_WireTruncated_r16, f_custodylaw01_WireTruncated_r17, f_custodylaw01_WireTruncated_r18, h48, getBytesC, onB_pre, tri_def, h5, hQ3, cT, cF, dT, dF]
    exact ⟨by omega, i + 1, by omega, by omega, by omega⟩
  · simp (maxSteps := 1000000) (disch := first | omega | (simp; done) | (simp; omega)) [W_id, bys_app, bys_snoc, hQ3, hQ2, hQ]
set_option maxHeartbeats 4000000 in
theorem trunc_in2 {E : Env} (h52 : E.G 52 = getIntsC) (A0 A1 A2 A3 A4 X : AVal) (e : List UInt8) (he : e.length ≤ 100000) (hr : ∀ {i : Nat}, i < e.length → (getLs getI 1 (List.take i e)).2.2 = 5) (Q : AExit → ASt → Prop)
    (hQ : Q .normal ⟨[(0, A0), (1, A1), (2, A2), (3, A3), (4, A4)], [(47, X), (48, i64 5), (49, i64 2)], []⟩) : awp E f_custodylaw01_WireTruncated_r6 Q ⟨[(0, A0), (1, A1), (2, A2), (3, A3), (4, A4)], [(11, i64 2), (12, AVal.sl Mode.plain (some false) e.length (bys e)), (47, X), (48, i64 5), (49, i64 2)], []⟩ := by
  obtain ⟨m, hm, hm1, hm2⟩ : ∃ m : Nat, (if (500 : Int) < (e.length : Int) then (500 : Int) else (e.length : Int)) = (m : Int) ∧ m ≤ e.length ∧ m ≤ 500 := by
    by_cases h : 500 < e.length
    · exact ⟨500, by rw [if_pos (by omega)]; rfl, by omega, by omega⟩
    · exact ⟨e.length, by rw [if_neg (by omega)], by omega, by omega⟩
  simp (maxSteps := 1000000) (disch := first | omega | (simp; done) | (simp; omega)) [W_id, bys_app, bys_snoc, f_custodylaw01_WireTruncated_r6, f_custodylaw01_WireTruncated_r7, ↓eff_min2, minV_i64, hm]
  refine awp_name fun Q2 hQ2 => ?_
  refine awp_for (fun i : Nat => ⟨[(0, A0), (1, A1), (2, A2), (3, A3), (4, A4)], [(11, i64 2), (12, AVal.sl Mode.plain (some false) e.length (bys e)), (47, X), (48, i64 5), (49, i64 2), (56, i64 m), (57, i64 i)], []⟩) (fun i => m - i) (· ≤ m) 0 (by simp) (by simp) fun i hi => ?_
  refine awp_name fun Q3 hQ3 => ?_
  simp (maxSteps := 1000000) (disch := first | omega | (simp; done) | (simp; omega)) [W_id, bys_app, bys_snoc, f_custodylaw01_WireTruncated_l1, f_custodylaw01_WireTruncated_r8]
  rw [awp_cond]
  refine ⟨by simp, fun h => ?_, fun h => ?_⟩ <;> simp at h
  · have hi : i < e.length := by omega
    have h5 := hr hi
    simp (maxSteps := 1000000) (disch := first | omega | (simp; done) | (simp; omega)) [W_id, bys_app, bys_snoc, f_custodylaw01_WireTruncated_r9, f_custodylaw01_WireTruncated_r10, f_custodylaw01_WireTruncated_r11, f_custodylaw01_WireTruncated_r12, f_custodylaw01_WireTruncated_r13, f_custodylaw01_WireTruncated_r14, f_custodylaw01_WireTruncated_r15, f_custodylaw01_WireTruncated_r16, f_custodylaw01_WireTruncated_r17, f_custodylaw01_WireTruncated_r18, h52, getIntsC, vIs, onB_pre, tri_def, h5, hQ3, cT, cF, dT, dF]
    exact ⟨by omega, i + 1, by omega, by omega, by omega⟩
  · simp (maxSteps := 1000000) (disch := first | omega | (simp; done) | (simp; omega)) [W_id, bys_app, bys_snoc, hQ3, hQ2, hQ]
set_option maxHeartbeats 4000000 in
theorem trunc_in3 {E : Env} (h55 : E.G 55 = getStrsC) (A0 A1 A2 A3 A4 X : AVal) (e : List UInt8) (he : e.length ≤ 100000) (hr : ∀ {i : Nat}, i < e.length → (getLs getS 1 (List.take i e)).2.2 = 5) (Q : AExit → ASt → Prop)
    (hQ : Q .normal ⟨[(0, A0), (1, A1), (2, A2), (3, A3), (4, A4)], [(47, X), (48, i64 5), (49, i64 3)], []⟩) : awp E f_custodylaw01_WireTruncated_r6 Q ⟨[(0, A0), (1, A1), (2, A2), (3, A3), (4, A4)], [(11, i64 3), (12, AVal.sl Mode.plain (some false) e.length (bys e)), (47, X), (48, i64 5), (49, i64 3)], []⟩ := by
  obtain ⟨m, hm, hm1, hm2⟩ : ∃ m : Nat, (if (500 : Int) < (e.length : Int) then (500 : Int) else (e.length : Int)) = (m : Int) ∧ m ≤ e.length ∧ m ≤ 500 := by
    by_cases h : 500 < e.length
    · exact ⟨500, by rw [if_pos (by omega)]; rfl, by omega, by omega⟩
    · exact ⟨e.length, by rw [if_neg (by omega)], by omega, by omega⟩
  simp (maxSteps := 1000000) (disch := first | omega | (simp; done) | (simp; omega)) [W_id, bys_app, bys_snoc, f_custodylaw01_WireTruncated_r6, f_custodylaw01_WireTruncated_r7, ↓eff_min2, minV_i64, hm]
  refine awp_name fun Q2 hQ2 => ?_
  refine awp_for (fun i : Nat => ⟨[(0, A0), (1, A1), (2, A2), (3, A3), (4, A4)], [(11, i64 3), (12, AVal.sl Mode.plain (some false) e.length (bys e)), (47, X), (48, i64 5), (49, i64 3), (56, i64 m), (57, i64 i)], []⟩) (fun i => m - i) (· ≤ m) 0 (by simp) (by simp) fun i hi => ?_
  refine awp_name fun Q3 hQ3 => ?_
  simp (maxSteps := 1000000) (disch := first | omega | (simp; done) | (simp; omega)) [W_id, bys_app, bys_snoc, f_custodylaw01_WireTruncated_l1, f_custodylaw01_WireTruncated_r8]
  rw [awp_cond]
  refine ⟨by simp, fun h => ?_, fun h => ?_⟩ <;> simp at h
  · have hi : i < e.length := by omega
    have h5 := hr hi
    simp (maxSteps := 1000000) (disch := first | omega | (simp; done) | (simp; omega)) [W_id, bys_app, bys_snoc, f_custodylaw01_WireTruncated_r9, f_custodylaw01_WireTruncated_r10, f_custodylaw01_WireTruncated_r11, f_custodylaw01_WireTruncated_r12, f_custodylaw01_WireTruncated_r13, f_custodylaw01_WireTruncated_r14, f_custodylaw01_WireTruncated_r15, f_custodylaw01_WireTruncated_r16, f_custodylaw01_WireTruncated_r17, f_custodylaw01_WireTruncated_r18, h55, getStrsC, vSs, onB_pre, tri_def, h5, hQ3, cT, cF, dT, dF]
    exact ⟨by omega, i + 1, by omega, by omega, by omega⟩
  · simp (maxSteps := 1000000) (disch := first | omega | (simp; done) | (simp; omega)) [W_id, bys_app, bys_snoc, hQ3, hQ2, hQ]
set_option maxHeartbeats 4000000 in
theorem trunc_in4 {E : Env} (h58 : E.G 58 = getDigsC) (A0 A1 A2 A3 A4 X : AVal) (e : List UInt8) (he : e.length ≤ 100000) (hr : ∀ {i : Nat}, i < e.length → (getD16 (List.take i e)).2.2 = 5) (Q : AExit → ASt → Prop)
    (hQ : Q .normal ⟨[(0, A0), (1, A1), (2, A2), (3, A3), (4, A4)], [(47, X), (48, i64 5), (49, i64 4)], []⟩) : awp E f_custodylaw01_WireTruncated_r6 Q ⟨[(0, A0), (1, A1), (2, A2), (3, A3), (4, A4)], [(11, i64 4), (12, AVal.sl Mode.plain (some false) e.length (bys e)), (47, X), (48, i64 5), (49, i64 4)], []⟩ := by
  obtain ⟨m, hm, hm1, hm2⟩ : ∃ m : Nat, (if (500 : Int) < (e.length : Int) then (500 : Int) else (e.length : Int)) = (m : Int) ∧ m ≤ e.length ∧ m ≤ 500 := by
    by_cases h : 500 < e.length
    · exact ⟨500, by rw [if_pos (by omega)]; rfl, by omega, by omega⟩
    · exact ⟨e.length, by rw [if_neg (by omega)], by omega, by omega⟩
  simp (maxSteps := 1000000) (disch := first | omega | (simp; done) | (simp; omega)) [W_id, bys_app, bys_snoc, f_custodylaw01_WireTruncated_r6, f_custodylaw01_WireTruncated_r7, ↓eff_min2, minV_i64, hm]
  refine awp_name fun Q2 hQ2 => ?_
  refine awp_for (fun i : Nat => ⟨[(0, A0), (1, A1), (2, A2), (3, A3), (4, A4)], [(11, i64 4), (12, AVal.sl Mode.plain (some false) e.length (bys e)), (47, X), (48, i64 5), (49, i64 4), (56, i64 m), (57, i64 i)], []⟩) (fun i => m - i) (· ≤ m) 0 (by simp) (by simp) fun i hi => ?_
  refine awp_name fun Q3 hQ3 => ?_
  simp (maxSteps := 1000000) (disch := first | omega | (simp; done) | (simp; omega)) [W_id, bys_app, bys_snoc, f_custodylaw01_WireTruncated_l1, f_custodylaw01_WireTruncated_r8]
  rw [awp_cond]
  refine ⟨by simp, fun h => ?_, fun h => ?_⟩ <;> simp at h
  · have hi : i < e.length := by omega
    have h5 := hr hi
    simp (maxSteps := 1000000) (disch := first | omega | (simp; done) | (simp; omega)) [W_id, bys_app, bys_snoc, f_custodylaw01_WireTruncated_r9, f_custodylaw01_WireTruncated_r10, f_custodylaw01_WireTruncated_r11, f_custodylaw01_WireTruncated_r12, f_custodylaw01_WireTruncated_r13, f_custodylaw01_WireTruncated_r14, f_custodylaw01_WireTruncated_r15, f_custodylaw01_WireTruncated_r16, f_custodylaw01_WireTruncated_r17, f_custodylaw01_WireTruncated_r18, h58, getDigsC, vD, onB_pre, tri_def, h5, hQ3, cT, cF, dT, dF]
    exact ⟨by omega, i + 1, by omega, by omega, by omega⟩
  · simp (maxSteps := 1000000) (disch := first | omega | (simp; done) | (simp; omega)) [W_id, bys_app, bys_snoc, hQ3, hQ2, hQ]
end Go.Abs
end

section
namespace Go.Abs
set_option maxRecDepth 100000
set_option maxHeartbeats 8000000 in
theorem law_Trunc_ok (E : Env) (h63 : E.G 63 = sanC) (h62 : E.G 62 = fewsC) (h12 : E.G 12 = intC) (h7 : E.G 7 = bytesC) (h39 : E.G 39 = wIntsC) (h41 : E.G 41 = wStrsC) (h43 : E.G 43 = wDigsC) (h45 : E.G 45 = getIntC) (h48 : E.G 48 = getBytesC) (h52 : E.G 52 = getIntsC) (h55 : E.G 55 = getStrsC) (h58 : E.G 58 = getDigsC) : ∀ ds, lawE5.pre ds → ds.length = f_custodylaw01_WireTruncated.n ∧ awp E f_custodylaw01_WireTruncated.body (retQ f_custodylaw01_WireTruncated.res (lawE5.post ds)) (initSt f_custodylaw01_WireTruncated.wr ds) := by
  rintro _ ⟨n, s, nl, nx, nd, l, x, k, d, hn, hs, hl, hm, hx, hk, hd, rfl⟩
  by_cases hg : 400 < s.length + 9 * l.length + 16 * k
  · simp (maxSteps := 1000000) (disch := first | omega | (simp; done) | (simp; omega)) [W_id, bys_app, bys_snoc, f_custodylaw01_WireTruncated, f_custodylaw01_WireTruncated_r0, h63, h62, lawE5, trueC, fews_pre, dT, dF]
    unfold f_custodylaw01_WireTruncated_r1
    rw [awp_cond]
    refine ⟨by simp, fun h => ?_, fun h => ?_⟩ <;> simp at h
    simp (maxSteps := 1000000) (disch := first | omega | (simp; done) | (simp; omega)) [W_id, bys_app, bys_snoc, h63]
  by_cases hxl : 40 < x.length
  · simp (maxSteps := 1000000) (disch := first | omega | (simp; done) | (simp; omega)) [W_id, bys_app, bys_snoc, f_custodylaw01_WireTruncated, f_custodylaw01_WireTruncated_r0, h63, h62, lawE5, trueC, fews_pre, dT, dF]
    unfold f_custodylaw01_WireTruncated_r1
    rw [awp_cond]
    refine ⟨by simp, fun h => ?_, fun h => ?_⟩ <;> simp at h
    simp (maxSteps := 1000000) (disch := first | omega | (simp; done) | (simp; omega)) [W_id, bys_app, bys_snoc, h63]
  by_cases hf : few1 x ≤ 2000
  · simp (maxSteps := 1000000) (disch := first | omega | (simp; done) | (simp; omega)) [W_id, bys_app, bys_snoc, f_custodylaw01_WireTruncated, f_custodylaw01_WireTruncated_r0, h63, h62, lawE5, trueC, fews_pre, hf, dT, dF]
    unfold f_custodylaw01_WireTruncated_r1
    rw [awp_cond]
    refine ⟨by simp, fun h => ?_, fun h => ?_⟩ <;> simp at h
    clear h
    have h1 := encI_len hn
    have h2 := encS_le (s := s) (by omega)
    have h3 := encIs_len hm (by omega)
    have h4 := encSs_len (x := x) (by omega)
    have h5 := encDs_len (k := k) (d := d) (by omega)
    have h6 := totS_few x
    have hxs : ∀ y ∈ x, y.length ≤ 9223372036854775807 := fun y hy => by
      have := lens_mem' hy
      have := few1_eq x
      omega
    have r0 : ∀ {i : Nat}, i < (encI n).length → (getI ((encI n).take i)).2.2 = 5 := fun h => getI_cut hn h
    have r1 : ∀ {i : Nat}, i < (encS s).length → (getS ((encS s).take i)).2.2 = 5 := fun h => getS_cut (by omega) h
    have r2 : ∀ {i : Nat}, i < (encIs l).length → (getLs getI 1 ((encIs l).take i)).2.2 = 5 := fun h => getIs_cut (by omega) hm h
    have r3 : ∀ {i : Nat}, i < (encSs x).length → (getLs getS 1 ((encSs x).take i)).2.2 = 5 := fun h => getSs_cut (by omega) hxs h
    have r4 : ∀ {i : Nat}, i < (encDs k d).length → (getD16 ((encDs k d).take i)).2.2 = 5 := fun h => getD_cut (by omega) hd h
    simp (maxSteps := 1000000) (disch := first | omega | (simp; done) | (simp; omega)) [W_id, bys_app, bys_snoc, f_custodylaw01_WireTruncated_r2, h12, h7, h43, h39, h41, int_pre, bytes_pre, wDigsC, wIntsC, wStrsC, onIs_pre, onSs_pre, onDs_pre, own1]
    generalize encI n = e0 at *
    generalize encS s = e1 at *
    generalize encIs l = e2 at *
    generalize encSs x = e3 at *
    generalize encDs k d = e4 at *
    refine ⟨by rw [int_pre hn.1 hn.2]; trivial, ?_⟩
    clear h6 hxs hm hn
    have b0 : e0.length ≤ 100000 := by omega
    have b1 : e1.length ≤ 100000 := by omega
    have b2 : e2.length ≤ 100000 := by omega
    have b3 : e3.length ≤ 100000 := by omega
    have b4 : e4.length ≤ 100000 := by omega
    clear h1 h2 h3 h4 h5 hg hxl hf hx hk hd hl hs h12 h7 h43 h39 h41 h62
    simp (maxSteps := 1000000) (disch := first | omega | (simp; done) | (simp; omega)) [W_id, bys_app, bys_snoc, f_custodylaw01_WireTruncated_r3]
    refine awp_name fun Q0 hQ0 => ?_
    refine awp_for (fun j : Nat => ⟨[(0, i64 n), (1, st s), (2, AVal.sl Mode.plain nl l.length (ints l)), (3, AVal.sl Mode.plain nx x.length (sts x)), (4, AVal.sl Mode.plain nd k (bys d))], [(47, AVal.sl (Mode.own 1) (some false) 5
                [AVal.sl (Mode.own 1) (some false) e0.length (bys e0),
                  AVal.sl (Mode.own 1) (some false) e1.length (bys e1),
                  AVal.sl (Mode.own 1) (some false) e2.length (bys e2),
                  AVal.sl (Mode.own 1) (some false) e3.length (bys e3),
                  AVal.sl (Mode.own 1) (some false) e4.length (bys e4)]), (48, i64 5), (49, i64 j)], []⟩)
      (fun j => 5 - j) (· ≤ 5) 0 (by simp) (by simp) fun j hj => ?_
    refine awp_name fun Q1 hQ1 => ?_
    simp (maxSteps := 1000000) (disch := first | omega | (simp; done) | (simp; omega)) [W_id, bys_app, bys_snoc, f_custodylaw01_WireTruncated_l0, f_custodylaw01_WireTruncated_r4]
    rw [awp_cond]
    refine ⟨by simp, fun h => ?_, fun h => ?_⟩ <;> simp at h
    · have hj5 : j = 0 ∨ j = 1 ∨ j = 2 ∨ j = 3 ∨ j = 4 := by omega
      rcases hj5 with rfl | rfl | rfl | rfl | rfl
      · simp (maxSteps := 1000000) (disch := first | omega | (simp; done) | (simp; omega)) [W_id, bys_app, bys_snoc, f_custodylaw01_WireTruncated_r5]
        refine trunc_in0 h45 _ _ _ _ _ _ e0 b0 r0 _ ?_
        simp (maxSteps := 1000000) (disch := first | omega | (simp; done) | (simp; omega)) [W_id, bys_app, bys_snoc, hQ1]
        exact ⟨1, by omega, by omega, rfl⟩
      · simp (maxSteps := 1000000) (disch := first | omega | (simp; done) | (simp; omega)) [W_id, bys_app, bys_snoc, f_custodylaw01_WireTruncated_r5]
        refine trunc_in1 h48 _ _ _ _ _ _ e1 b1 r1 _ ?_
        simp (maxSteps := 1000000) (disch := first | omega | (simp; done) | (simp; omega)) [W_id, bys_app, bys_snoc, hQ1]
        exact ⟨2, by omega, by omega, rfl⟩
      · simp (maxSteps := 1000000) (disch := first | omega | (simp; done) | (simp; omega)) [W_id, bys_app, bys_snoc, f_custodylaw01_WireTruncated_r5]
        refine trunc_in2 h52 _ _ _ _ _ _ e2 b2 r2 _ ?_
        simp (maxSteps := 1000000) (disch := first | omega | (simp; done) | (simp; omega)) [W_id, bys_app, bys_snoc, hQ1]
        exact ⟨3, by omega, by omega, rfl⟩
      · simp (maxSteps := 1000000) (disch := first | omega | (simp; done) | (simp; omega)) [W_id, bys_app, bys_snoc, f_custodylaw01_WireTruncated_r5]
        refine trunc_in3 h55 _ _ _ _ _ _ e3 b3 r3 _ ?_
        simp (maxSteps := 1000000) (disch := first | omega | (simp; done) | (simp; omega)) [W_id, bys_app, bys_snoc, hQ1]
        exact ⟨4, by omega, by omega, rfl⟩
      · simp (maxSteps := 1000000) (disch := first | omega | (simp; done) | (simp; omega)) [W_id, bys_app, bys_snoc, f_custodylaw01_WireTruncated_r5]
        refine trunc_in4 h58 _ _ _ _ _ _ e4 b4 r4 _ ?_
        simp (maxSteps := 1000000) (disch := first | omega | (simp; done) | (simp; omega)) [W_id, bys_app, bys_snoc, hQ1]
        exact ⟨5, by omega, by omega, rfl⟩
    · simp (maxSteps := 1000000) (disch := first | omega | (simp; done) | (simp; omega)) [W_id, bys_app, bys_snoc, hQ1, hQ0, f_custodylaw01_WireTruncated_r19, h63]
  · simp (maxSteps := 1000000) (disch := first | omega | (simp; done) | (simp; omega)) [W_id, bys_app, bys_snoc, f_custodylaw01_WireTruncated, f_custodylaw01_WireTruncated_r0, h63, h62, lawE5, trueC, fews_pre, hf, dT, dF]
    unfold f_custodylaw01_WireTruncated_r1
    rw [awp_cond]
    refine ⟨by simp, fun h => ?_, fun h => ?_⟩ <;> simp at h
    simp (maxSteps := 1000000) (disch := first | omega | (simp; done) | (simp; omega)) [W_id, bys_app, bys_snoc, h63]
end Go.Abs
end

section
namespace Go.Abs
theorem lawL5_pre (as : List AVal) (h : hasA [.str, .sl (.int .i64), .sl .str, .sl (.arr 16 (.int .u8)), .sl (.int .u8)] as) (hb : wtL as ≤ 1048576) : lawL5.pre as := by
  simp only [hasA] at h
  obtain ⟨c1, _, rfl, h1, c2, _, rfl, h2, c3, _, rfl, h3, c4, _, rfl, h4, c5, _, rfl, h5, rfl⟩ := h
  obtain ⟨s, rfl⟩ := has_str h1
  obtain ⟨l, hl, rfl⟩ := has_ints h2
  obtain ⟨x, rfl⟩ := has_strs h3
  obtain ⟨k, d, hd, rfl⟩ := has_digs h4
  obtain ⟨t, rfl⟩ := has_bytes h5
  change wt (st s) + (wt (.sl .plain none l.length (ints l)) + (wt (.sl .plain none x.length (sts x)) + (wt (.sl .plain none k (bys d)) + (wt (.sl .plain none t.length (bys t)) + 0)))) ≤ 1048576 at hb
  rw [wt_st, show wt (.sl .plain none l.length (ints l)) = wtL (ints l) + 1 by simp only [wt], show wt (.sl .plain none x.length (sts x)) = wtL (sts x) + 1 by simp only [wt], show wt (.sl .plain none k (bys d)) = wtL (bys d) + 1 by simp only [wt], show wt (.sl .plain none t.length (bys t)) = wtL (bys t) + 1 by simp only [wt], wtL_ints, wtL_sts, wtL_bys, wtL_bys] at hb
  exact ⟨s, none, none, none, none, l, x, k, d, t, by omega, by omega, hl, by omega, by omega, hd, by omega, rfl⟩
end Go.Abs
end
