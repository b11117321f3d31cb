/- Lemmas: an abstract interpreter, and what the functions compute. -/
import Derived.Test.YtcegicmamdabfaaDoorD
set_option linter.unusedSimpArgs false
set_option linter.unusedVariables false
set_option linter.unusedSectionVars false
section
namespace Go.Abs
set_option maxRecDepth 100000
/-- custody command.Kind = 123; calls command.Kind$1 = 121, command.Kind$1 = 122 -/
def f_command_Kind_r1 : ACode :=
  .seq (
    .region [2, 3] [] [
      ⟨(some 8), none, .mv false (.s 4)⟩,
      ⟨(some 9), none, .bin .add (.s 8) (.c (i64 1))⟩,
      ⟨(some 10), none, .mv false (.s 4)⟩,
      ⟨(some 11), none, .bin .geq (.s 10) (.c (i64 0))⟩,
      ⟨(some 2), none, .mv false (.s 9)⟩,
      ⟨(some 3), none, .mv false (.s 11)⟩]) (
  .ret)
def f_command_Kind_r0 : ACode :=
  .seq (
    .region [4] [] [
      ⟨(some 5), none, .slArr 27 4 (.g 2) none none none⟩,
      ⟨(some 6), none, .mkfn 121 [] [(.s 1)]⟩,
      ⟨(some 7), none, .call 122 [(.s 5), (.s 6)] [1]⟩,
      ⟨(some 4), none, .mv false (.s 7)⟩]) (
  f_command_Kind_r1)
def f_command_Kind : AFun :=
 { n := 1, wr := [], res := [.t 2, .t 3], body :=
    .seq (
      .region [1] [.norm [1]] [
        ⟨(some 1), none, .box 1 none false (.s 0)⟩,
        ⟨(some 2), none, .mv false (.c (i64 0))⟩,
        ⟨(some 3), none, .mv false (.c (bo false))⟩]) (
    f_command_Kind_r0) }

/-- custody command.Name = 125; calls command.isKind = 124 -/
def f_command_Name_r1 : ACode :=
  .cond (.s 5) (
    .seq (
      .region [2] [] [
        ⟨(some 2), none, .mv false (.c (st []))⟩]) (
    .ret)) (
    .ghost (.keep []) .skip)
def f_command_Name_r2 : ACode :=
  .seq (
    .region [2] [] [
      ⟨(some 6), none, .mv false (.s 0)⟩,
      ⟨(some 7), none, .bin .sub (.s 6) (.c (i64 1))⟩,
      ⟨(some 8), none, .idxArr 27 4 (.g 2) (.s 7)⟩,
      ⟨(some 9), none, .fieldAddr 0 (.s 8)⟩,
      ⟨(some 10), none, .load none none false (.s 9)⟩,
      ⟨(some 2), none, .mv false (.s 10)⟩]) (
  .ret)
def f_command_Name_r0 : ACode :=
  .seq (
    .seq (
      .region [5] [] [
        ⟨(some 3), none, .mv false (.s 0)⟩,
        ⟨(some 4), none, .call 124 [(.s 3)] []⟩,
        ⟨(some 5), none, .un .not (.s 4)⟩]) (
    f_command_Name_r1)) (
  f_command_Name_r2)
def f_command_Name : AFun :=
 { n := 1, wr := [], res := [.t 2], body :=
    .seq (
      .region [] [] [
        ⟨(some 2), none, .mv false (.c (st []))⟩]) (
    f_command_Name_r0) }

/-- custody command.Check = 128; calls command.row).keys = 127, command.row).number = 126, command.isKind = 124 -/
def f_command_Check_r1 : ACode :=
  .cond (.s 8) (
    .seq (
      .region [2] [] [
        ⟨(some 2), none, .mv false (.c (i64 1))⟩]) (
    .ret)) (
    .ghost (.keep [1]) .skip)
def f_command_Check_r6 : ACode :=
  .cond (.s 77) (
    .seq (
      .region [2] [] [
        ⟨(some 2), none, .mv false (.c (i64 2))⟩]) (
    .ret)) (
    .ghost (.keep []) .skip)
def f_command_Check_r5 : ACode :=
  .cond (.s 42) (
    .seq (
      .region [2] [] [
        ⟨(some 2), none, .mv false (.c (i64 1))⟩]) (
    .ret)) (
    .seq (
      .region [77] [.norm [1, 3]] [
        ⟨(some 78), none, .fieldAddr 6 (.s 1)⟩,
        ⟨(some 79), none, .load none (some 1) false (.s 78)⟩,
        ⟨(some 80), none, .len true (.s 79)⟩,
        ⟨(some 81), none, .fieldAddr 3 (.s 3)⟩,
        ⟨(some 82), none, .load none (some 3) false (.s 81)⟩,
        ⟨(some 83), none, .bin .gtr (.s 80) (.s 82)⟩,
        ⟨(some 77), none, .mv false (.s 83)⟩]) (
    f_command_Check_r6))
def f_command_Check_r7 : ACode :=
  .seq (
    .region [2] [] [
      ⟨(some 2), none, .mv false (.c (i64 0))⟩]) (
  .ret)
def f_command_Check_r4 : ACode :=
  .seq (
    .block 0 (
      .seq (
        .region [1, 3, 42] [.norm [1, 3]] [
          ⟨(some 43), none, .mv false (.s 4)⟩,
          ⟨(some 44), none, .un .not (.s 43)⟩,
          ⟨(some 45), none, .mv false (.s 44)⟩,
          ⟨(some 46), (some (45, false)), .fieldAddr 4 (.s 1)⟩,
          ⟨(some 47), (some (45, false)), .load none (some 1) false (.s 46)⟩,
          ⟨(some 48), (some (45, false)), .bin .andNot (.s 47) (.c (i64 956))⟩,
          ⟨(some 49), (some (45, false)), .bin .neq (.s 48) (.c (i64 0))⟩,
          ⟨(some 50), none, .pick (.s 45) (.c (bo true)) (.s 49)⟩,
          ⟨(some 51), none, .mv false (.s 50)⟩,
          ⟨(some 52), (some (51, false)), .load (some 4) (some 3) false (.s 3)⟩,
          ⟨(some 53), (some (51, false)), .fieldAddr 7 (.s 1)⟩,
          ⟨(some 54), (some (51, false)), .load none (some 1) false (.s 53)⟩,
          ⟨(some 55), (some (51, false)), .call 127 [(.s 52), (.s 54)] []⟩,
          ⟨(some 56), (some (51, false)), .un .not (.s 55)⟩,
          ⟨(some 57), none, .pick (.s 51) (.c (bo true)) (.s 56)⟩,
          ⟨(some 58), none, .mv false (.s 57)⟩,
          ⟨(some 59), (some (58, false)), .fieldAddr 1 (.s 3)⟩,
          ⟨(some 60), (some (58, false)), .load none (some 3) false (.s 59)⟩,
          ⟨(some 61), (some (58, false)), .bin .and (.s 60) (.c (i64 16))⟩,
          ⟨(some 62), (some (58, false)), .bin .eql (.s 61) (.c (i64 0))⟩,
          ⟨(some 63), (some (58, false)), .mv false (.s 62)⟩,
          ⟨(some 64), (some (63, true)), .fieldAddr 6 (.s 1)⟩,
          ⟨(some 65), (some (63, true)), .load none (some 1) false (.s 64)⟩,
          ⟨(some 66), (some (63, true)), .bin .neq (.s 65) (.c (st []))⟩,
          ⟨(some 67), (some (58, false)), .pick (.s 63) (.s 66) (.c (bo false))⟩,
          ⟨(some 68), none, .pick (.s 58) (.c (bo true)) (.s 67)⟩,
          ⟨(some 69), none, .mv false (.s 68)⟩,
          ⟨(some 70), (some (69, false)), .fieldAddr 6 (.s 1)⟩,
          ⟨(some 71), (some (69, false)), .load none (some 1) false (.s 70)⟩,
          ⟨(some 72), (some (69, false)), .len true (.s 71)⟩,
          ⟨(some 73), (some (69, false)), .fieldAddr 2 (.s 3)⟩,
          ⟨(some 74), (some (69, false)), .load none (some 3) false (.s 73)⟩,
          ⟨(some 75), (some (69, false)), .bin .lss (.s 72) (.s 74)⟩,
          ⟨(some 76), none, .pick (.s 69) (.c (bo true)) (.s 75)⟩,
          ⟨(some 42), none, .mv false (.s 76)⟩]) (
      f_command_Check_r5))) (
  f_command_Check_r7)
def f_command_Check_r3 : ACode :=
  .seq (
    .region [1, 3, 4] [.norm [1, 3]] [
      ⟨(some 14), none, .load (some 4) (some 3) false (.s 3)⟩,
      ⟨(some 15), none, .fieldAddr 1 (.s 1)⟩,
      ⟨(some 16), none, .load none (some 1) false (.s 15)⟩,
      ⟨(some 17), none, .call 126 [(.s 14), (.c (i64 1)), (.s 16), (.c (i64 4294967296))] []⟩,
      ⟨(some 18), none, .mv false (.s 17)⟩,
      ⟨(some 19), (some (18, true)), .load (some 4) (some 3) false (.s 3)⟩,
      ⟨(some 20), (some (18, true)), .fieldAddr 2 (.s 1)⟩,
      ⟨(some 21), (some (18, true)), .load none (some 1) false (.s 20)⟩,
      ⟨(some 22), (some (18, true)), .call 126 [(.s 19), (.c (i64 2)), (.s 21), (.c (i64 4294967296))] []⟩,
      ⟨(some 23), none, .pick (.s 18) (.s 22) (.c (bo false))⟩,
      ⟨(some 24), none, .mv false (.s 23)⟩,
      ⟨(some 25), (some (24, true)), .load (some 4) (some 3) false (.s 3)⟩,
      ⟨(some 26), (some (24, true)), .fieldAddr 3 (.s 1)⟩,
      ⟨(some 27), (some (24, true)), .load none (some 1) false (.s 26)⟩,
      ⟨(some 28), (some (24, true)), .call 126 [(.s 25), (.c (i64 4)), (.s 27), (.c (i64 31))] []⟩,
      ⟨(some 29), none, .pick (.s 24) (.s 28) (.c (bo false))⟩,
      ⟨(some 30), none, .mv false (.s 29)⟩,
      ⟨(some 31), (some (30, true)), .load (some 4) (some 3) false (.s 3)⟩,
      ⟨(some 32), (some (30, true)), .fieldAddr 4 (.s 1)⟩,
      ⟨(some 33), (some (30, true)), .load none (some 1) false (.s 32)⟩,
      ⟨(some 34), (some (30, true)), .call 126 [(.s 31), (.c (i64 4)), (.s 33), (.c (i64 956))] []⟩,
      ⟨(some 35), none, .pick (.s 30) (.s 34) (.c (bo false))⟩,
      ⟨(some 36), none, .mv false (.s 35)⟩,
      ⟨(some 37), (some (36, true)), .load (some 4) (some 3) false (.s 3)⟩,
      ⟨(some 38), (some (36, true)), .fieldAddr 5 (.s 1)⟩,
      ⟨(some 39), (some (36, true)), .load none (some 1) false (.s 38)⟩,
      ⟨(some 40), (some (36, true)), .call 126 [(.s 37), (.c (i64 4)), (.s 39), (.c (i64 1099511627776))] []⟩,
      ⟨(some 41), none, .pick (.s 36) (.s 40) (.c (bo false))⟩,
      ⟨(some 4), none, .mv false (.s 41)⟩]) (
  f_command_Check_r4)
def f_command_Check_r2 : ACode :=
  .seq (
    .region [1, 3] [.norm [1, 3]] [
      ⟨(some 9), none, .fieldAddr 0 (.s 1)⟩,
      ⟨(some 10), none, .load none (some 1) false (.s 9)⟩,
      ⟨(some 11), none, .bin .sub (.s 10) (.c (i64 1))⟩,
      ⟨(some 12), none, .idxArr 27 4 (.g 2) (.s 11)⟩,
      ⟨(some 13), none, .load (some 4) none false (.s 12)⟩,
      ⟨(some 3), none, .alloc 3 [st [], i64 0, i64 0, i64 0]⟩,
      ⟨none, none, .store (some 4) 3 false (.s 3) (.s 13)⟩]) (
  f_command_Check_r3)
def f_command_Check_r0 : ACode :=
  .seq (
    .seq (
      .region [1, 8] [.norm [1]] [
        ⟨(some 5), none, .fieldAddr 0 (.s 1)⟩,
        ⟨(some 6), none, .load none (some 1) false (.s 5)⟩,
        ⟨(some 7), none, .call 124 [(.s 6)] []⟩,
        ⟨(some 8), none, .un .not (.s 7)⟩]) (
    f_command_Check_r1)) (
  f_command_Check_r2)
def f_command_Check : AFun :=
 { n := 1, wr := [], res := [.t 2], body :=
    .seq (
      .region [1] [.norm [1]] [
        ⟨(some 1), none, .box 1 (some 8) false (.s 0)⟩,
        ⟨(some 2), none, .mv false (.c (i64 0))⟩]) (
    f_command_Check_r0) }

/-- custody command.Encode = 130; calls wire.Bytes = 7, wire.Int = 12, wire.Ints = 39, slices.Concat[[]byte,byte] = 129 -/
def f_command_Encode_r5 : ACode :=
  .region [1, 3, 18, 19] [] [
    ⟨(some 22), none, .mv true (.s 3)⟩,
    ⟨(some 23), none, .mv false (.s 5)⟩,
    ⟨(some 24), none, .call 12 [(.s 23)] []⟩,
    ⟨(some 25), none, .append 1 1 false none none 22 (.s 24)⟩,
    ⟨(some 3), none, .mv true (.s 25)⟩]
def f_command_Encode_r4 : ACode :=
  .seq (
    .block 1 (
      .seq (
        .region [1, 3, 5, 18, 19] [] [
          ⟨(some 21), none, .idxA none 1 6 (.s 18) (.s 19)⟩,
          ⟨(some 5), none, .mv false (.s 21)⟩]) (
      f_command_Encode_r5))) (
  .region [1, 3, 18, 19] [] [
    ⟨(some 26), none, .bin .add (.s 19) (.c (i64 1))⟩,
    ⟨(some 19), none, .mv false (.s 26)⟩])
def f_command_Encode_r3 : ACode :=
  .seq (
    .cond (.s 20) (
      .ghost (.keep [1, 3, 18, 19]) .skip) (
      .ghost (.keep [1, 3]) (.exit 0))) (
  f_command_Encode_r4)
def f_command_Encode_l0 : ACode :=
  .seq (
    .region [1, 3, 18, 19, 20] [] [
      ⟨(some 20), none, .bin .lss (.s 19) (.c (i64 6))⟩]) (
  f_command_Encode_r3)
def f_command_Encode_r2 : ACode :=
  .block 0 (
    .loop f_command_Encode_l0)
def f_command_Encode_r6 : ACode :=
  .seq (
    .region [2] [.norm [1]] [
      ⟨(some 27), none, .mv true (.s 3)⟩,
      ⟨(some 28), none, .fieldAddr 6 (.s 1)⟩,
      ⟨(some 29), none, .load none (some 1) false (.s 28)⟩,
      ⟨(some 30), none, .call 7 [(.s 29)] []⟩,
      ⟨(some 31), none, .fieldAddr 7 (.s 1)⟩,
      ⟨(some 32), none, .load none (some 1) false (.s 31)⟩,
      ⟨(some 33), none, .call 39 [(.s 32)] []⟩,
      ⟨(some 34), none, .buildSl 1 3 [.sl .plain none 0 [], .sl .plain none 0 [], .sl .plain none 0 []] [(0, 1, (.s 27)), (1, 1, (.s 30)), (2, 1, (.s 33))]⟩,
      ⟨(some 35), none, .call 129 [(.s 34)] []⟩,
      ⟨(some 2), none, .mv true (.s 35)⟩]) (
  .ret)
def f_command_Encode_r1 : ACode :=
  .seq (
    .seq (
      .region [1, 3, 18, 19] [.norm [1]] [
        ⟨(some 6), none, .fieldAddr 0 (.s 1)⟩,
        ⟨(some 7), none, .load none (some 1) false (.s 6)⟩,
        ⟨(some 8), none, .fieldAddr 1 (.s 1)⟩,
        ⟨(some 9), none, .load none (some 1) false (.s 8)⟩,
        ⟨(some 10), none, .fieldAddr 2 (.s 1)⟩,
        ⟨(some 11), none, .load none (some 1) false (.s 10)⟩,
        ⟨(some 12), none, .fieldAddr 3 (.s 1)⟩,
        ⟨(some 13), none, .load none (some 1) false (.s 12)⟩,
        ⟨(some 14), none, .fieldAddr 4 (.s 1)⟩,
        ⟨(some 15), none, .load none (some 1) false (.s 14)⟩,
        ⟨(some 16), none, .fieldAddr 5 (.s 1)⟩,
        ⟨(some 17), none, .load none (some 1) false (.s 16)⟩,
        ⟨(some 18), none, .build [i64 0, i64 0, i64 0, i64 0, i64 0, i64 0] [(0, 1, (.s 7)), (1, 1, (.s 9)), (2, 1, (.s 11)), (3, 1, (.s 13)), (4, 1, (.s 15)), (5, 1, (.s 17))]⟩,
        ⟨(some 19), none, .mv false (.c (i64 0))⟩]) (
    f_command_Encode_r2)) (
  f_command_Encode_r6)
def f_command_Encode_r0 : ACode :=
  .seq (
    .region [1, 3] [] [
      ⟨(some 3), none, .mv true (.c (.sl (.own 1) none 0 []))⟩]) (
  f_command_Encode_r1)
def f_command_Encode : AFun :=
 { n := 1, wr := [], res := [.t 2], body :=
    .seq (
      .region [1] [.norm [1]] [
        ⟨(some 1), none, .box 1 (some 8) false (.s 0)⟩,
        ⟨(some 2), none, .mv true (.c (.sl (.own 1) none 0 []))⟩]) (
    f_command_Encode_r0) }

/-- custody command.Digest = 131; calls command.Encode = 130, hash.Of = 8 -/
def f_command_Digest_r0 : ACode :=
  .seq (
    .region [2] [.norm [1, 2]] [
      ⟨(some 3), none, .load (some 8) (some 1) false (.s 1)⟩,
      ⟨(some 4), none, .call 130 [(.s 3)] []⟩,
      ⟨(some 5), none, .toStr none (.s 4)⟩,
      ⟨(some 6), none, .buildSl 1 1 [st []] [(0, 1, (.s 5))]⟩,
      ⟨(some 7), none, .call 8 [(.c (i64 7)), (.s 6)] []⟩,
      ⟨none, none, .store (some 16) 2 false (.s 2) (.s 7)⟩]) (
  .ret)
def f_command_Digest : AFun :=
 { n := 1, wr := [], res := [.cell 2 (some 16) 2], body :=
    .seq (
      .region [1, 2] [.norm [1, 2]] [
        ⟨(some 1), none, .box 1 (some 8) false (.s 0)⟩,
        ⟨(some 2), none, .alloc 2 (bys (zeros 16))⟩]) (
    f_command_Digest_r0) }

/-- custody command.Same = 133; calls slices.Equal[[]int,int] = 132 -/
def f_command_Same_r1 : ACode :=
  .seq (
    .region [4] [.norm [2, 3]] [
      ⟨(some 11), none, .fieldAddr 0 (.s 2)⟩,
      ⟨(some 12), none, .load none (some 2) false (.s 11)⟩,
      ⟨(some 13), none, .fieldAddr 0 (.s 3)⟩,
      ⟨(some 14), none, .load none (some 3) false (.s 13)⟩,
      ⟨(some 15), none, .bin .eql (.s 12) (.s 14)⟩,
      ⟨(some 16), none, .mv false (.s 15)⟩,
      ⟨(some 17), (some (16, true)), .fieldAddr 1 (.s 2)⟩,
      ⟨(some 18), (some (16, true)), .load none (some 2) false (.s 17)⟩,
      ⟨(some 19), (some (16, true)), .fieldAddr 1 (.s 3)⟩,
      ⟨(some 20), (some (16, true)), .load none (some 3) false (.s 19)⟩,
      ⟨(some 21), (some (16, true)), .bin .eql (.s 18) (.s 20)⟩,
      ⟨(some 22), none, .pick (.s 16) (.s 21) (.c (bo false))⟩,
      ⟨(some 23), none, .mv false (.s 22)⟩,
      ⟨(some 24), (some (23, true)), .fieldAddr 2 (.s 2)⟩,
      ⟨(some 25), (some (23, true)), .load none (some 2) false (.s 24)⟩,
      ⟨(some 26), (some (23, true)), .fieldAddr 2 (.s 3)⟩,
      ⟨(some 27), (some (23, true)), .load none (some 3) false (.s 26)⟩,
      ⟨(some 28), (some (23, true)), .bin .eql (.s 25) (.s 27)⟩,
      ⟨(some 29), none, .pick (.s 23) (.s 28) (.c (bo false))⟩,
      ⟨(some 30), none, .mv false (.s 29)⟩,
      ⟨(some 31), (some (30, true)), .fieldAddr 3 (.s 2)⟩,
      ⟨(some 32), (some (30, true)), .load none (some 2) false (.s 31)⟩,
      ⟨(some 33), (some (30, true)), .fieldAddr 3 (.s 3)⟩,
      ⟨(some 34), (some (30, true)), .load none (some 3) false (.s 33)⟩,
      ⟨(some 35), (some (30, true)), .bin .eql (.s 32) (.s 34)⟩,
      ⟨(some 36), none, .pick (.s 30) (.s 35) (.c (bo false))⟩,
      ⟨(some 37), none, .mv false (.s 36)⟩,
      ⟨(some 38), (some (37, true)), .fieldAddr 4 (.s 2)⟩,
      ⟨(some 39), (some (37, true)), .load none (some 2) false (.s 38)⟩,
      ⟨(some 40), (some (37, true)), .fieldAddr 4 (.s 3)⟩,
      ⟨(some 41), (some (37, true)), .load none (some 3) false (.s 40)⟩,
      ⟨(some 42), (some (37, true)), .bin .eql (.s 39) (.s 41)⟩,
      ⟨(some 43), none, .pick (.s 37) (.s 42) (.c (bo false))⟩,
      ⟨(some 44), none, .mv false (.s 43)⟩,
      ⟨(some 45), (some (44, true)), .fieldAddr 5 (.s 2)⟩,
      ⟨(some 46), (some (44, true)), .load none (some 2) false (.s 45)⟩,
      ⟨(some 47), (some (44, true)), .fieldAddr 5 (.s 3)⟩,
      ⟨(some 48), (some (44, true)), .load none (some 3) false (.s 47)⟩,
      ⟨(some 49), (some (44, true)), .bin .eql (.s 46) (.s 48)⟩,
      ⟨(some 50), none, .pick (.s 44) (.s 49) (.c (bo false))⟩,
      ⟨(some 51), none, .mv false (.s 50)⟩,
      ⟨(some 52), (some (51, true)), .fieldAddr 6 (.s 2)⟩,
      ⟨(some 53), (some (51, true)), .load none (some 2) false (.s 52)⟩,
      ⟨(some 54), (some (51, true)), .fieldAddr 6 (.s 3)⟩,
      ⟨(some 55), (some (51, true)), .load none (some 3) false (.s 54)⟩,
      ⟨(some 56), (some (51, true)), .bin .eql (.s 53) (.s 55)⟩,
      ⟨(some 57), none, .pick (.s 51) (.s 56) (.c (bo false))⟩,
      ⟨(some 58), none, .mv false (.s 57)⟩,
      ⟨(some 59), (some (58, true)), .mv false (.s 5)⟩,
      ⟨(some 60), (some (58, true)), .mv false (.s 6)⟩,
      ⟨(some 61), (some (58, true)), .call 132 [(.s 59), (.s 60)] []⟩,
      ⟨(some 62), none, .pick (.s 58) (.s 61) (.c (bo false))⟩,
      ⟨(some 4), none, .mv false (.s 62)⟩]) (
  .ret)
def f_command_Same_r0 : ACode :=
  .seq (
    .region [2, 3, 5, 6] [.norm [2, 3]] [
      ⟨(some 7), none, .fieldAddr 7 (.s 2)⟩,
      ⟨(some 8), none, .load none (some 2) false (.s 7)⟩,
      ⟨(some 9), none, .fieldAddr 7 (.s 3)⟩,
      ⟨(some 10), none, .load none (some 3) false (.s 9)⟩,
      ⟨(some 5), none, .mv true (.s 8)⟩,
      ⟨(some 6), none, .mv true (.s 10)⟩]) (
  f_command_Same_r1)
def f_command_Same : AFun :=
 { n := 2, wr := [], res := [.t 4], body :=
    .seq (
      .region [2, 3] [.norm [2, 3]] [
        ⟨(some 2), none, .box 2 (some 8) false (.s 0)⟩,
        ⟨(some 3), none, .box 3 (some 8) false (.s 1)⟩,
        ⟨(some 4), none, .mv false (.c (bo false))⟩]) (
    f_command_Same_r0) }

/-- custody command.Decode = 138; calls command.reader).data = 135, command.reader).end = 137, command.reader).list = 136, command.reader).numbers = 134 -/
def f_command_Decode_r7 : ACode :=
  .cond (.s 28) (
    .seq (
      .region [2, 3] [.norm [2, 10, 19]] [
        ⟨(some 29), none, .build [i64 0, i64 0, i64 0, i64 0, i64 0, i64 0, st [], .sl .plain none 0 []] []⟩,
        ⟨(some 30), none, .mv false (.s 7)⟩,
        ⟨none, none, .store (some 8) 2 false (.s 2) (.s 29)⟩,
        ⟨(some 3), none, .mv false (.s 30)⟩]) (
    .ret)) (
    .ghost (.keep [2, 4, 19, 20, 21]) .skip)
def f_command_Decode_r6 : ACode :=
  .seq (
    .region [2, 4, 7, 19, 20, 21, 28] [] [
      ⟨(some 27), none, .mv false (.s 7)⟩,
      ⟨(some 28), none, .bin .neq (.s 27) (.c (i64 0))⟩]) (
  f_command_Decode_r7)
def f_command_Decode_r5 : ACode :=
  .seq (
    .alt (
      .region [2, 4, 7, 19, 20, 21] [.norm [2, 10, 19]] [
        ⟨(some 25), none, .mv false (.s 6)⟩,
        ⟨(some 26), none, .callm 134 (some (.s 25)) [] [(0, 10)] []⟩,
        ⟨(some 7), none, .mv false (.s 26)⟩]) (
    .alt (
      .region [2, 4, 7, 19, 20, 21] [.norm [2, 10, 19]] [
        ⟨(some 25), none, .mv false (.s 6)⟩,
        ⟨(some 26), none, .callm 135 (some (.s 25)) [] [(0, 10)] []⟩,
        ⟨(some 7), none, .mv false (.s 26)⟩]) (
    .alt (
      .region [2, 4, 7, 19, 20, 21] [.norm [2, 10, 19]] [
        ⟨(some 25), none, .mv false (.s 6)⟩,
        ⟨(some 26), none, .callm 136 (some (.s 25)) [] [(0, 10)] []⟩,
        ⟨(some 7), none, .mv false (.s 26)⟩]) (
      .region [2, 4, 7, 19, 20, 21] [.norm [2, 10, 19]] [
        ⟨(some 25), none, .mv false (.s 6)⟩,
        ⟨(some 26), none, .callm 137 (some (.s 25)) [] [(0, 10)] []⟩,
        ⟨(some 7), none, .mv false (.s 26)⟩])))) (
  f_command_Decode_r6)
def f_command_Decode_r4 : ACode :=
  .seq (
    .block 1 (
      .seq (
        .region [2, 4, 6, 19, 20, 21] [.norm [2, 10, 19]] [
          ⟨(some 23), none, .idxSl 1 (.s 19) (.s 21)⟩,
          ⟨(some 24), none, .load none (some 19) false (.s 23)⟩,
          ⟨(some 6), none, .mv false (.s 24)⟩]) (
      f_command_Decode_r5))) (
  .region [2, 4, 19, 20, 21] [] [
    ⟨(some 31), none, .bin .add (.s 21) (.c (i64 1))⟩,
    ⟨(some 21), none, .mv false (.s 31)⟩])
def f_command_Decode_r3 : ACode :=
  .seq (
    .cond (.s 22) (
      .ghost (.keep [2, 4, 19, 20, 21]) .skip) (
      .ghost (.keep [2, 4]) (.exit 0))) (
  f_command_Decode_r4)
def f_command_Decode_l0 : ACode :=
  .seq (
    .region [2, 4, 19, 20, 21, 22] [] [
      ⟨(some 22), none, .bin .lss (.s 21) (.s 20)⟩]) (
  f_command_Decode_r3)
def f_command_Decode_r2 : ACode :=
  .block 0 (
    .loop f_command_Decode_l0)
def f_command_Decode_r8 : ACode :=
  .seq (
    .region [2, 3] [.norm [2, 10, 19]] [
      ⟨(some 32), none, .mv false (.s 4)⟩,
      ⟨(some 33), none, .nilchk (.s 32)⟩,
      ⟨(some 34), none, .fieldAddr 0 (.s 33)⟩,
      ⟨(some 35), none, .load (some 8) (some 10) false (.s 34)⟩,
      ⟨none, none, .store (some 8) 2 false (.s 2) (.s 35)⟩,
      ⟨(some 3), none, .mv false (.c (i64 0))⟩]) (
  .ret)
def f_command_Decode_r1 : ACode :=
  .seq (
    .seq (
      .region [2, 4, 19, 20, 21] [.norm [2, 10, 19]] [
        ⟨(some 11), none, .mv false (.s 4)⟩,
        ⟨(some 12), none, .mkfn 134 [(.s 11)] []⟩,
        ⟨(some 13), none, .mv false (.s 4)⟩,
        ⟨(some 14), none, .mkfn 135 [(.s 13)] []⟩,
        ⟨(some 15), none, .mv false (.s 4)⟩,
        ⟨(some 16), none, .mkfn 136 [(.s 15)] []⟩,
        ⟨(some 17), none, .mv false (.s 4)⟩,
        ⟨(some 18), none, .mkfn 137 [(.s 17)] []⟩,
        ⟨(some 19), none, .buildBx 19 1 4 [.lit .nilFunc, .lit .nilFunc, .lit .nilFunc, .lit .nilFunc] [(0, 1, (.s 12)), (1, 1, (.s 14)), (2, 1, (.s 16)), (3, 1, (.s 18))]⟩,
        ⟨(some 20), none, .len false (.s 19)⟩,
        ⟨(some 21), none, .mv false (.c (i64 0))⟩]) (
    f_command_Decode_r2)) (
  f_command_Decode_r8)
def f_command_Decode_r0 : ACode :=
  .seq (
    .region [2, 4] [.norm [2, 10]] [
      ⟨(some 8), none, .mv false (.s 0)⟩,
      ⟨(some 9), none, .build (List.replicate 6 (i64 0) ++ [st []] ++ [.sl .plain none 0 [], .sl .plain none 0 []]) [(8, 1, (.s 8))]⟩,
      ⟨(some 10), none, .box 10 (some 9) false (.s 9)⟩,
      ⟨(some 4), none, .mv false (.s 10)⟩]) (
  f_command_Decode_r1)
def f_command_Decode : AFun :=
 { n := 1, wr := [], res := [.cell 2 (some 8) 2, .t 3], body :=
    .seq (
      .region [2] [.norm [2]] [
        ⟨(some 2), none, .alloc 2 (List.replicate 6 (i64 0) ++ [st []] ++ [.sl .plain none 0 []])⟩,
        ⟨(some 3), none, .mv false (.c (i64 0))⟩]) (
    f_command_Decode_r0) }

/-- slices.IndexFunc[[]custody command.row,custody command.row]@custody command.Kind$1 = 122; calls command.Kind$1 = 121 -/
def f_slices_IndexFunc_command_Kind_1_r5 : ACode :=
  .cond (.s 16) (
    .seq (
      .region [4] [] [
        ⟨(some 17), none, .mv false (.s 5)⟩,
        ⟨(some 4), none, .mv false (.s 17)⟩]) (
    .ret)) (
    .ghost (.keep [7, 8]) .skip)
def f_slices_IndexFunc_command_Kind_1_r4 : ACode :=
  .seq (
    .region [5, 7, 8, 16] [] [
      ⟨(some 11), none, .mv false (.s 1)⟩,
      ⟨(some 12), none, .mv false (.s 0)⟩,
      ⟨(some 13), none, .mv false (.s 5)⟩,
      ⟨(some 14), none, .idxSl 4 (.s 12) (.s 13)⟩,
      ⟨(some 15), none, .load (some 4) none false (.s 14)⟩,
      ⟨(some 16), none, .callv 121 (.s 11) [(.s 15)] []⟩]) (
  f_slices_IndexFunc_command_Kind_1_r5)
def f_slices_IndexFunc_command_Kind_1_r3 : ACode :=
  .seq (
    .block 1 (
      .seq (
        .region [5, 7, 8] [] [
          ⟨(some 10), none, .mv false (.s 8)⟩,
          ⟨(some 5), none, .mv false (.s 10)⟩]) (
      f_slices_IndexFunc_command_Kind_1_r4))) (
  .region [7, 8] [] [
    ⟨(some 18), none, .bin .add (.s 8) (.c (i64 1))⟩,
    ⟨(some 8), none, .mv false (.s 18)⟩])
def f_slices_IndexFunc_command_Kind_1_r2 : ACode :=
  .seq (
    .cond (.s 9) (
      .ghost (.keep [7, 8]) .skip) (
      .ghost (.keep []) (.exit 0))) (
  f_slices_IndexFunc_command_Kind_1_r3)
def f_slices_IndexFunc_command_Kind_1_l0 : ACode :=
  .seq (
    .region [7, 8, 9] [] [
      ⟨(some 9), none, .bin .lss (.s 8) (.s 7)⟩]) (
  f_slices_IndexFunc_command_Kind_1_r2)
def f_slices_IndexFunc_command_Kind_1_r1 : ACode :=
  .block 0 (
    .loop f_slices_IndexFunc_command_Kind_1_l0)
def f_slices_IndexFunc_command_Kind_1_r6 : ACode :=
  .seq (
    .region [4] [] [
      ⟨(some 4), none, .mv false (.c (i64 (-1)))⟩]) (
  .ret)
def f_slices_IndexFunc_command_Kind_1_r0 : ACode :=
  .seq (
    .seq (
      .region [7, 8] [] [
        ⟨(some 6), none, .mv false (.s 0)⟩,
        ⟨(some 7), none, .len false (.s 6)⟩,
        ⟨(some 8), none, .mv false (.c (i64 0))⟩]) (
    f_slices_IndexFunc_command_Kind_1_r1)) (
  f_slices_IndexFunc_command_Kind_1_r6)
def f_slices_IndexFunc_command_Kind_1 : AFun :=
 { n := 2, wr := [], res := [.t 4], body :=
    .seq (
      .region [] [] [
        ⟨(some 4), none, .mv false (.c (i64 0))⟩]) (
    f_slices_IndexFunc_command_Kind_1_r0) }

/-- custody command.Kind$1 = 121; calls  -/
def f_command_Kind_1_r0 : ACode :=
  .seq (
    .region [3] [.norm [2]] [
      ⟨(some 4), none, .fieldAddr 0 (.s 2)⟩,
      ⟨(some 5), none, .load none (some 2) false (.s 4)⟩,
      ⟨(some 6), none, .load none none false (.s 1)⟩,
      ⟨(some 7), none, .bin .eql (.s 5) (.s 6)⟩,
      ⟨(some 3), none, .mv false (.s 7)⟩]) (
  .ret)
def f_command_Kind_1 : AFun :=
 { n := 2, wr := [], res := [.t 3], body :=
    .seq (
      .region [2] [.norm [2]] [
        ⟨(some 2), none, .box 2 (some 4) false (.s 0)⟩,
        ⟨(some 3), none, .mv false (.c (bo false))⟩]) (
    f_command_Kind_1_r0) }

/-- custody command.isKind = 124; calls  -/
def f_command_isKind_r0 : ACode :=
  .seq (
    .region [2] [] [
      ⟨(some 3), none, .mv false (.s 0)⟩,
      ⟨(some 4), none, .bin .geq (.s 3) (.c (i64 1))⟩,
      ⟨(some 5), none, .mv false (.s 4)⟩,
      ⟨(some 6), (some (5, true)), .mv false (.s 0)⟩,
      ⟨(some 7), (some (5, true)), .bin .leq (.s 6) (.c (i64 27))⟩,
      ⟨(some 8), none, .pick (.s 5) (.s 7) (.c (bo false))⟩,
      ⟨(some 2), none, .mv false (.s 8)⟩]) (
  .ret)
def f_command_isKind : AFun :=
 { n := 1, wr := [], res := [.t 2], body :=
    .seq (
      .region [] [] [
        ⟨(some 2), none, .mv false (.c (bo false))⟩]) (
    f_command_isKind_r0) }

/-- (custody command.row).number = 126; calls  -/
def f_command_row_number_r1 : ACode :=
  .cond (.s 13) (
    .region [3] [] [
      ⟨(some 3), none, .mv false (.c (i64 0))⟩]) (
    .ghost (.keep [3]) .skip)
def f_command_row_number_r2 : ACode :=
  .seq (
    .region [8] [] [
      ⟨(some 14), none, .mv false (.s 2)⟩,
      ⟨(some 15), none, .bin .geq (.s 14) (.c (i64 0))⟩,
      ⟨(some 16), none, .mv false (.s 15)⟩,
      ⟨(some 17), (some (16, true)), .mv false (.s 2)⟩,
      ⟨(some 18), (some (16, true)), .mv false (.s 3)⟩,
      ⟨(some 19), (some (16, true)), .bin .leq (.s 17) (.s 18)⟩,
      ⟨(some 20), none, .pick (.s 16) (.s 19) (.c (bo false))⟩,
      ⟨(some 8), none, .mv false (.s 20)⟩]) (
  .ret)
def f_command_row_number_r0 : ACode :=
  .seq (
    .seq (
      .region [3, 13] [.norm [4]] [
        ⟨(some 9), none, .fieldAddr 1 (.s 4)⟩,
        ⟨(some 10), none, .load none (some 4) false (.s 9)⟩,
        ⟨(some 11), none, .mv false (.s 1)⟩,
        ⟨(some 12), none, .bin .and (.s 10) (.s 11)⟩,
        ⟨(some 13), none, .bin .eql (.s 12) (.c (i64 0))⟩]) (
    f_command_row_number_r1)) (
  f_command_row_number_r2)
def f_command_row_number : AFun :=
 { n := 4, wr := [3], res := [.t 8], body :=
    .seq (
      .region [3, 4] [.norm [4]] [
        ⟨(some 4), none, .box 4 (some 4) false (.s 0)⟩,
        ⟨(some 8), none, .mv false (.c (bo false))⟩]) (
    f_command_row_number_r0) }

/-- (custody command.row).keys = 127; calls  -/
def f_command_row_keys_r1 : ACode :=
  .cond (.s 11) (
    .seq (
      .region [4] [] [
        ⟨(some 12), none, .mv false (.s 1)⟩,
        ⟨(some 13), none, .len false (.s 12)⟩,
        ⟨(some 14), none, .bin .eql (.s 13) (.c (i64 0))⟩,
        ⟨(some 4), none, .mv false (.s 14)⟩]) (
    .ret)) (
    .ghost (.keep []) .skip)
def f_command_row_keys_r8 : ACode :=
  .cond (.s 27) (
    .seq (
      .region [4] [] [
        ⟨(some 4), none, .mv false (.c (bo false))⟩]) (
    .ret)) (
    .ghost (.keep [7, 15, 16, 17]) .skip)
def f_command_row_keys_r7 : ACode :=
  .seq (
    .seq (
      .region [7, 15, 16, 17, 27] [] [
        ⟨(some 21), none, .mv false (.s 7)⟩,
        ⟨(some 22), none, .mv false (.s 5)⟩,
        ⟨(some 23), none, .bin .leq (.s 21) (.s 22)⟩,
        ⟨(some 24), none, .mv false (.s 23)⟩,
        ⟨(some 25), (some (24, false)), .mv false (.s 7)⟩,
        ⟨(some 26), (some (24, false)), .bin .gtr (.s 25) (.c (i64 4096))⟩,
        ⟨(some 27), none, .pick (.s 24) (.c (bo true)) (.s 26)⟩]) (
    f_command_row_keys_r8)) (
  .region [5, 15, 16, 17] [] [
    ⟨(some 28), none, .mv false (.s 7)⟩,
    ⟨(some 5), none, .mv false (.s 28)⟩])
def f_command_row_keys_r6 : ACode :=
  .seq (
    .block 1 (
      .seq (
        .region [5, 7, 15, 16, 17] [.norm [2]] [
          ⟨(some 19), none, .idxSl 1 (.s 15) (.s 17)⟩,
          ⟨(some 20), none, .load none none false (.s 19)⟩,
          ⟨(some 7), none, .mv false (.s 20)⟩]) (
      f_command_row_keys_r7))) (
  .region [5, 15, 16, 17] [] [
    ⟨(some 29), none, .bin .add (.s 17) (.c (i64 1))⟩,
    ⟨(some 17), none, .mv false (.s 29)⟩])
def f_command_row_keys_r5 : ACode :=
  .seq (
    .cond (.s 18) (
      .ghost (.keep [5, 15, 16, 17]) .skip) (
      .ghost (.keep []) (.exit 0))) (
  f_command_row_keys_r6)
def f_command_row_keys_l0 : ACode :=
  .seq (
    .region [5, 15, 16, 17, 18] [] [
      ⟨(some 18), none, .bin .lss (.s 17) (.s 16)⟩]) (
  f_command_row_keys_r5)
def f_command_row_keys_r4 : ACode :=
  .block 0 (
    .loop f_command_row_keys_l0)
def f_command_row_keys_r9 : ACode :=
  .seq (
    .region [4] [] [
      ⟨(some 30), none, .mv false (.s 1)⟩,
      ⟨(some 31), none, .len false (.s 30)⟩,
      ⟨(some 32), none, .bin .gtr (.s 31) (.c (i64 0))⟩,
      ⟨(some 4), none, .mv false (.s 32)⟩]) (
  .ret)
def f_command_row_keys_r3 : ACode :=
  .seq (
    .seq (
      .region [5, 15, 16, 17] [] [
        ⟨(some 15), none, .mv false (.s 1)⟩,
        ⟨(some 16), none, .len false (.s 15)⟩,
        ⟨(some 17), none, .mv false (.c (i64 0))⟩]) (
    f_command_row_keys_r4)) (
  f_command_row_keys_r9)
def f_command_row_keys_r2 : ACode :=
  .seq (
    .region [5] [] [
      ⟨(some 5), none, .mv false (.c (i64 0))⟩]) (
  f_command_row_keys_r3)
def f_command_row_keys_r0 : ACode :=
  .seq (
    .seq (
      .region [11] [.norm [2]] [
        ⟨(some 8), none, .fieldAddr 1 (.s 2)⟩,
        ⟨(some 9), none, .load none (some 2) false (.s 8)⟩,
        ⟨(some 10), none, .bin .and (.s 9) (.c (i64 8))⟩,
        ⟨(some 11), none, .bin .eql (.s 10) (.c (i64 0))⟩]) (
    f_command_row_keys_r1)) (
  f_command_row_keys_r2)
def f_command_row_keys : AFun :=
 { n := 2, wr := [], res := [.t 4], body :=
    .seq (
      .region [2] [.norm [2]] [
        ⟨(some 2), none, .box 2 (some 4) false (.s 0)⟩,
        ⟨(some 4), none, .mv false (.c (bo false))⟩]) (
    f_command_row_keys_r0) }

/-- slices.Concat[[]byte,byte] = 129; calls slices.Grow[[]byte,byte] = 139 -/
def f_slices_Concat_r7 : ACode :=
  .cond (.s 20) (
    .region [3, 9, 10, 11] [] [
      ⟨(some 21), none, .unsup⟩,
      ⟨none, none, .unsup⟩]) (
    .ghost (.keep [3, 9, 10, 11]) .skip)
def f_slices_Concat_r6 : ACode :=
  .seq (
    .region [3, 9, 10, 11, 20] [] [
      ⟨(some 19), none, .mv false (.s 3)⟩,
      ⟨(some 20), none, .bin .lss (.s 19) (.c (i64 0))⟩]) (
  f_slices_Concat_r7)
def f_slices_Concat_r5 : ACode :=
  .seq (
    .region [3, 9, 10, 11] [] [
      ⟨(some 15), none, .mv false (.s 3)⟩,
      ⟨(some 16), none, .mv true (.s 5)⟩,
      ⟨(some 17), none, .len false (.s 16)⟩,
      ⟨(some 18), none, .bin .add (.s 15) (.s 17)⟩,
      ⟨(some 3), none, .mv false (.s 18)⟩]) (
  f_slices_Concat_r6)
def f_slices_Concat_r4 : ACode :=
  .seq (
    .block 1 (
      .seq (
        .region [3, 5, 9, 10, 11] [] [
          ⟨(some 13), none, .idxSl 1 (.s 9) (.s 11)⟩,
          ⟨(some 14), none, .load none none false (.s 13)⟩,
          ⟨(some 5), none, .mv true (.s 14)⟩]) (
      f_slices_Concat_r5))) (
  .region [3, 9, 10, 11] [] [
    ⟨(some 22), none, .bin .add (.s 11) (.c (i64 1))⟩,
    ⟨(some 11), none, .mv false (.s 22)⟩])
def f_slices_Concat_r3 : ACode :=
  .seq (
    .cond (.s 12) (
      .ghost (.keep [3, 9, 10, 11]) .skip) (
      .ghost (.keep [3]) (.exit 0))) (
  f_slices_Concat_r4)
def f_slices_Concat_l0 : ACode :=
  .seq (
    .region [3, 9, 10, 11, 12] [] [
      ⟨(some 12), none, .bin .lss (.s 11) (.s 10)⟩]) (
  f_slices_Concat_r3)
def f_slices_Concat_r2 : ACode :=
  .block 0 (
    .loop f_slices_Concat_l0)
def f_slices_Concat_r13 : ACode :=
  .region [6, 25, 26, 27] [] [
    ⟨(some 31), none, .mv true (.s 6)⟩,
    ⟨(some 32), none, .mv true (.s 8)⟩,
    ⟨(some 33), none, .append 1 1 false none none 31 (.s 32)⟩,
    ⟨(some 6), none, .mv true (.s 33)⟩]
def f_slices_Concat_r12 : ACode :=
  .seq (
    .block 3 (
      .seq (
        .region [6, 8, 25, 26, 27] [] [
          ⟨(some 29), none, .idxSl 1 (.s 25) (.s 27)⟩,
          ⟨(some 30), none, .load none none false (.s 29)⟩,
          ⟨(some 8), none, .mv true (.s 30)⟩]) (
      f_slices_Concat_r13))) (
  .region [6, 25, 26, 27] [] [
    ⟨(some 34), none, .bin .add (.s 27) (.c (i64 1))⟩,
    ⟨(some 27), none, .mv false (.s 34)⟩])
def f_slices_Concat_r11 : ACode :=
  .seq (
    .cond (.s 28) (
      .ghost (.keep [6, 25, 26, 27]) .skip) (
      .ghost (.keep [6]) (.exit 2))) (
  f_slices_Concat_r12)
def f_slices_Concat_l1 : ACode :=
  .seq (
    .region [6, 25, 26, 27, 28] [] [
      ⟨(some 28), none, .bin .lss (.s 27) (.s 26)⟩]) (
  f_slices_Concat_r11)
def f_slices_Concat_r10 : ACode :=
  .block 2 (
    .loop f_slices_Concat_l1)
def f_slices_Concat_r14 : ACode :=
  .seq (
    .region [2] [] [
      ⟨(some 35), none, .mv true (.s 6)⟩,
      ⟨(some 2), none, .mv true (.s 35)⟩]) (
  .ret)
def f_slices_Concat_r9 : ACode :=
  .seq (
    .seq (
      .region [6, 25, 26, 27] [] [
        ⟨(some 25), none, .mv false (.s 0)⟩,
        ⟨(some 26), none, .len false (.s 25)⟩,
        ⟨(some 27), none, .mv false (.c (i64 0))⟩]) (
    f_slices_Concat_r10)) (
  f_slices_Concat_r14)
def f_slices_Concat_r8 : ACode :=
  .seq (
    .region [6] [] [
      ⟨(some 23), none, .mv false (.s 3)⟩,
      ⟨(some 24), none, .call 139 [(.c (.lit (.slice none 0 0))), (.s 23)] []⟩,
      ⟨(some 6), none, .mv true (.s 24)⟩]) (
  f_slices_Concat_r9)
def f_slices_Concat_r1 : ACode :=
  .seq (
    .seq (
      .region [3, 9, 10, 11] [] [
        ⟨(some 9), none, .mv false (.s 0)⟩,
        ⟨(some 10), none, .len false (.s 9)⟩,
        ⟨(some 11), none, .mv false (.c (i64 0))⟩]) (
    f_slices_Concat_r2)) (
  f_slices_Concat_r8)
def f_slices_Concat_r0 : ACode :=
  .seq (
    .region [3] [] [
      ⟨(some 3), none, .mv false (.c (i64 0))⟩]) (
  f_slices_Concat_r1)
def f_slices_Concat : AFun :=
 { n := 1, wr := [], res := [.t 2], body :=
    .seq (
      .region [] [] [
        ⟨(some 2), none, .mv true (.c (.sl (.own 1) none 0 []))⟩]) (
    f_slices_Concat_r0) }

/-- slices.Equal[[]int,int] = 132; calls  -/
def f_slices_Equal_r1 : ACode :=
  .cond (.s 10) (
    .seq (
      .region [4] [] [
        ⟨(some 4), none, .mv false (.c (bo false))⟩]) (
    .ret)) (
    .ghost (.keep []) .skip)
def f_slices_Equal_r7 : ACode :=
  .cond (.s 24) (
    .seq (
      .region [4] [] [
        ⟨(some 4), none, .mv false (.c (bo false))⟩]) (
    .ret)) (
    .ghost (.keep [12, 13]) .skip)
def f_slices_Equal_r6 : ACode :=
  .seq (
    .region [12, 13, 24] [] [
      ⟨(some 16), none, .mv false (.s 0)⟩,
      ⟨(some 17), none, .mv false (.s 5)⟩,
      ⟨(some 18), none, .idxSl 1 (.s 16) (.s 17)⟩,
      ⟨(some 19), none, .load none none false (.s 18)⟩,
      ⟨(some 20), none, .mv false (.s 1)⟩,
      ⟨(some 21), none, .mv false (.s 5)⟩,
      ⟨(some 22), none, .idxSl 1 (.s 20) (.s 21)⟩,
      ⟨(some 23), none, .load none none false (.s 22)⟩,
      ⟨(some 24), none, .bin .neq (.s 19) (.s 23)⟩]) (
  f_slices_Equal_r7)
def f_slices_Equal_r5 : ACode :=
  .seq (
    .block 1 (
      .seq (
        .region [5, 12, 13] [] [
          ⟨(some 15), none, .mv false (.s 13)⟩,
          ⟨(some 5), none, .mv false (.s 15)⟩]) (
      f_slices_Equal_r6))) (
  .region [12, 13] [] [
    ⟨(some 25), none, .bin .add (.s 13) (.c (i64 1))⟩,
    ⟨(some 13), none, .mv false (.s 25)⟩])
def f_slices_Equal_r4 : ACode :=
  .seq (
    .cond (.s 14) (
      .ghost (.keep [12, 13]) .skip) (
      .ghost (.keep []) (.exit 0))) (
  f_slices_Equal_r5)
def f_slices_Equal_l0 : ACode :=
  .seq (
    .region [12, 13, 14] [] [
      ⟨(some 14), none, .bin .lss (.s 13) (.s 12)⟩]) (
  f_slices_Equal_r4)
def f_slices_Equal_r3 : ACode :=
  .block 0 (
    .loop f_slices_Equal_l0)
def f_slices_Equal_r8 : ACode :=
  .seq (
    .region [4] [] [
      ⟨(some 4), none, .mv false (.c (bo true))⟩]) (
  .ret)
def f_slices_Equal_r2 : ACode :=
  .seq (
    .seq (
      .region [12, 13] [] [
        ⟨(some 11), none, .mv false (.s 0)⟩,
        ⟨(some 12), none, .len false (.s 11)⟩,
        ⟨(some 13), none, .mv false (.c (i64 0))⟩]) (
    f_slices_Equal_r3)) (
  f_slices_Equal_r8)
def f_slices_Equal_r0 : ACode :=
  .seq (
    .seq (
      .region [10] [] [
        ⟨(some 6), none, .mv false (.s 0)⟩,
        ⟨(some 7), none, .len false (.s 6)⟩,
        ⟨(some 8), none, .mv false (.s 1)⟩,
        ⟨(some 9), none, .len false (.s 8)⟩,
        ⟨(some 10), none, .bin .neq (.s 7) (.s 9)⟩]) (
    f_slices_Equal_r1)) (
  f_slices_Equal_r2)
def f_slices_Equal : AFun :=
 { n := 2, wr := [], res := [.t 4], body :=
    .seq (
      .region [] [] [
        ⟨(some 4), none, .mv false (.c (bo false))⟩]) (
    f_slices_Equal_r0) }

/-- (*custody command.reader).numbers (M) = 134; calls command.reader).skip = 140, wire.GetInt = 45 -/
def f_command_reader_numbers_r6 : ACode :=
  .cond (.s 49) (
    .seq (
      .region [0, 2] [] [
        ⟨(some 50), none, .mv false (.s 7)⟩,
        ⟨(some 2), none, .mv false (.s 50)⟩]) (
    .ret)) (
    .ghost (.keep [0, 4, 5, 32, 33]) .skip)
def f_command_reader_numbers_r7 : ACode :=
  .region [0, 32, 33] [.norm [0]] [
    ⟨(some 51), none, .mv false (.s 4)⟩,
    ⟨(some 52), none, .mv false (.s 5)⟩,
    ⟨(some 53), none, .nilchk (.s 51)⟩,
    ⟨none, none, .store none 0 false (.s 53) (.s 52)⟩]
def f_command_reader_numbers_r5 : ACode :=
  .seq (
    .seq (
      .region [0, 4, 5, 7, 32, 33, 49] [.norm [0]] [
        ⟨(some 45), none, .mv false (.s 0)⟩,
        ⟨(some 46), none, .mv false (.s 6)⟩,
        ⟨(some 47), none, .mv false (.s 7)⟩,
        ⟨(some 48), none, .callm 140 none [(.s 45), (.s 46), (.s 47)] [(0, 0)] []⟩,
        ⟨(some 49), none, .bin .neq (.s 48) (.c (i64 0))⟩]) (
    f_command_reader_numbers_r6)) (
  f_command_reader_numbers_r7)
def f_command_reader_numbers_r4 : ACode :=
  .seq (
    .region [0, 4, 5, 6, 7, 32, 33] [.norm [0]] [
      ⟨(some 37), none, .mv false (.s 0)⟩,
      ⟨(some 38), none, .nilchk (.s 37)⟩,
      ⟨(some 39), none, .fieldAddr 8 (.s 38)⟩,
      ⟨(some 40), none, .load none (some 0) false (.s 39)⟩,
      ⟨(some 41), none, .call 45 [(.s 40)] []⟩,
      ⟨(some 36), none, .mv false (.s 41)⟩,
      ⟨(some 42), none, .extract 0 (.s 36)⟩,
      ⟨(some 43), none, .extract 1 (.s 36)⟩,
      ⟨(some 44), none, .extract 2 (.s 36)⟩,
      ⟨(some 5), none, .mv false (.s 42)⟩,
      ⟨(some 6), none, .mv false (.s 43)⟩,
      ⟨(some 7), none, .mv false (.s 44)⟩]) (
  f_command_reader_numbers_r5)
def f_command_reader_numbers_r3 : ACode :=
  .seq (
    .block 1 (
      .seq (
        .region [0, 4, 32, 33] [] [
          ⟨(some 35), none, .idxA none 1 6 (.s 32) (.s 33)⟩,
          ⟨(some 4), none, .mv false (.s 35)⟩]) (
      f_command_reader_numbers_r4))) (
  .region [0, 32, 33] [] [
    ⟨(some 54), none, .bin .add (.s 33) (.c (i64 1))⟩,
    ⟨(some 33), none, .mv false (.s 54)⟩])
def f_command_reader_numbers_r2 : ACode :=
  .seq (
    .cond (.s 34) (
      .ghost (.keep [0, 32, 33]) .skip) (
      .ghost (.keep [0]) (.exit 0))) (
  f_command_reader_numbers_r3)
def f_command_reader_numbers_l0 : ACode :=
  .seq (
    .region [0, 32, 33, 34] [] [
      ⟨(some 34), none, .bin .lss (.s 33) (.c (i64 6))⟩]) (
  f_command_reader_numbers_r2)
def f_command_reader_numbers_r1 : ACode :=
  .block 0 (
    .loop f_command_reader_numbers_l0)
def f_command_reader_numbers_r8 : ACode :=
  .seq (
    .region [0, 2] [] [
      ⟨(some 2), none, .mv false (.c (i64 0))⟩]) (
  .ret)
def f_command_reader_numbers_r0 : ACode :=
  .seq (
    .seq (
      .region [0, 32, 33] [] [
        ⟨(some 8), none, .mv false (.s 0)⟩,
        ⟨(some 9), none, .nilchk (.s 8)⟩,
        ⟨(some 10), none, .fieldAddr 0 (.s 9)⟩,
        ⟨(some 11), none, .fieldAddr 0 (.s 10)⟩,
        ⟨(some 12), none, .mv false (.s 0)⟩,
        ⟨(some 13), none, .nilchk (.s 12)⟩,
        ⟨(some 14), none, .fieldAddr 0 (.s 13)⟩,
        ⟨(some 15), none, .fieldAddr 1 (.s 14)⟩,
        ⟨(some 16), none, .mv false (.s 0)⟩,
        ⟨(some 17), none, .nilchk (.s 16)⟩,
        ⟨(some 18), none, .fieldAddr 0 (.s 17)⟩,
        ⟨(some 19), none, .fieldAddr 2 (.s 18)⟩,
        ⟨(some 20), none, .mv false (.s 0)⟩,
        ⟨(some 21), none, .nilchk (.s 20)⟩,
        ⟨(some 22), none, .fieldAddr 0 (.s 21)⟩,
        ⟨(some 23), none, .fieldAddr 3 (.s 22)⟩,
        ⟨(some 24), none, .mv false (.s 0)⟩,
        ⟨(some 25), none, .nilchk (.s 24)⟩,
        ⟨(some 26), none, .fieldAddr 0 (.s 25)⟩,
        ⟨(some 27), none, .fieldAddr 4 (.s 26)⟩,
        ⟨(some 28), none, .mv false (.s 0)⟩,
        ⟨(some 29), none, .nilchk (.s 28)⟩,
        ⟨(some 30), none, .fieldAddr 0 (.s 29)⟩,
        ⟨(some 31), none, .fieldAddr 5 (.s 30)⟩,
        ⟨(some 32), none, .build [.lit (.pointer none), .lit (.pointer none), .lit (.pointer none), .lit (.pointer none), .lit (.pointer none), .lit (.pointer none)] [(0, 1, (.s 11)), (1, 1, (.s 15)), (2, 1, (.s 19)), (3, 1, (.s 23)), (4, 1, (.s 27)), (5, 1, (.s 31))]⟩,
        ⟨(some 33), none, .mv false (.c (i64 0))⟩]) (
    f_command_reader_numbers_r1)) (
  f_command_reader_numbers_r8)
def f_command_reader_numbers : AFun :=
 { n := 1, wr := [], res := [.t 2], body :=
    .seq (
      .region [0] [] [
        ⟨(some 2), none, .mv false (.c (i64 0))⟩]) (
    f_command_reader_numbers_r0) }

/-- (*custody command.reader).data (M) = 135; calls command.reader).skip = 140, wire.GetBytes = 48 -/
def f_command_reader_data_r2 : ACode :=
  .seq (
    .region [0, 2] [.norm [0]] [
      ⟨(some 20), none, .mv false (.s 0)⟩,
      ⟨(some 21), none, .mv false (.s 4)⟩,
      ⟨(some 22), none, .mv false (.s 5)⟩,
      ⟨(some 23), none, .callm 140 none [(.s 20), (.s 21), (.s 22)] [(0, 0)] []⟩,
      ⟨(some 2), none, .mv false (.s 23)⟩]) (
  .ret)
def f_command_reader_data_r1 : ACode :=
  .seq (
    .region [0, 4, 5] [.norm [0]] [
      ⟨(some 15), none, .mv false (.s 0)⟩,
      ⟨(some 16), none, .mv false (.s 3)⟩,
      ⟨(some 17), none, .nilchk (.s 15)⟩,
      ⟨(some 18), none, .fieldAddr 0 (.s 17)⟩,
      ⟨(some 19), none, .fieldAddr 6 (.s 18)⟩,
      ⟨none, none, .store none 0 false (.s 19) (.s 16)⟩]) (
  f_command_reader_data_r2)
def f_command_reader_data_r0 : ACode :=
  .seq (
    .region [0, 3, 4, 5] [.norm [0]] [
      ⟨(some 7), none, .mv false (.s 0)⟩,
      ⟨(some 8), none, .nilchk (.s 7)⟩,
      ⟨(some 9), none, .fieldAddr 8 (.s 8)⟩,
      ⟨(some 10), none, .load none (some 0) false (.s 9)⟩,
      ⟨(some 11), none, .call 48 [(.s 10)] []⟩,
      ⟨(some 6), none, .mv false (.s 11)⟩,
      ⟨(some 12), none, .extract 0 (.s 6)⟩,
      ⟨(some 13), none, .extract 1 (.s 6)⟩,
      ⟨(some 14), none, .extract 2 (.s 6)⟩,
      ⟨(some 3), none, .mv false (.s 12)⟩,
      ⟨(some 4), none, .mv false (.s 13)⟩,
      ⟨(some 5), none, .mv false (.s 14)⟩]) (
  f_command_reader_data_r1)
def f_command_reader_data : AFun :=
 { n := 1, wr := [], res := [.t 2], body :=
    .seq (
      .region [0] [] [
        ⟨(some 2), none, .mv false (.c (i64 0))⟩]) (
    f_command_reader_data_r0) }

/-- (*custody command.reader).list (M) = 136; calls command.reader).skip = 140, wire.GetInts = 52 -/
def f_command_reader_list_r2 : ACode :=
  .seq (
    .region [0, 2] [.norm [0]] [
      ⟨(some 20), none, .mv false (.s 0)⟩,
      ⟨(some 21), none, .mv false (.s 4)⟩,
      ⟨(some 22), none, .mv false (.s 5)⟩,
      ⟨(some 23), none, .callm 140 none [(.s 20), (.s 21), (.s 22)] [(0, 0)] []⟩,
      ⟨(some 2), none, .mv false (.s 23)⟩]) (
  .ret)
def f_command_reader_list_r1 : ACode :=
  .seq (
    .region [0, 4, 5] [.norm [0]] [
      ⟨(some 15), none, .mv false (.s 0)⟩,
      ⟨(some 16), none, .mv true (.s 3)⟩,
      ⟨(some 17), none, .nilchk (.s 15)⟩,
      ⟨(some 18), none, .fieldAddr 0 (.s 17)⟩,
      ⟨(some 19), none, .fieldAddr 7 (.s 18)⟩,
      ⟨none, none, .store none 0 true (.s 19) (.s 16)⟩]) (
  f_command_reader_list_r2)
def f_command_reader_list_r0 : ACode :=
  .seq (
    .region [0, 3, 4, 5] [.norm [0]] [
      ⟨(some 7), none, .mv false (.s 0)⟩,
      ⟨(some 8), none, .nilchk (.s 7)⟩,
      ⟨(some 9), none, .fieldAddr 8 (.s 8)⟩,
      ⟨(some 10), none, .load none (some 0) false (.s 9)⟩,
      ⟨(some 11), none, .call 52 [(.s 10)] []⟩,
      ⟨(some 6), none, .mv false (.s 11)⟩,
      ⟨(some 12), none, .extract 0 (.s 6)⟩,
      ⟨(some 13), none, .extract 1 (.s 6)⟩,
      ⟨(some 14), none, .extract 2 (.s 6)⟩,
      ⟨(some 3), none, .mv true (.s 12)⟩,
      ⟨(some 4), none, .mv false (.s 13)⟩,
      ⟨(some 5), none, .mv false (.s 14)⟩]) (
  f_command_reader_list_r1)
def f_command_reader_list : AFun :=
 { n := 1, wr := [], res := [.t 2], body :=
    .seq (
      .region [0] [] [
        ⟨(some 2), none, .mv false (.c (i64 0))⟩]) (
    f_command_reader_list_r0) }

/-- (*custody command.reader).end (M) = 137; calls command.Check = 128 -/
def f_command_reader_end_r1 : ACode :=
  .cond (.s 8) (
    .seq (
      .region [0, 2] [] [
        ⟨(some 2), none, .mv false (.c (i64 6))⟩]) (
    .ret)) (
    .ghost (.keep [0]) .skip)
def f_command_reader_end_r2 : ACode :=
  .seq (
    .region [0, 2] [.norm [0]] [
      ⟨(some 9), none, .mv false (.s 0)⟩,
      ⟨(some 10), none, .nilchk (.s 9)⟩,
      ⟨(some 11), none, .fieldAddr 0 (.s 10)⟩,
      ⟨(some 12), none, .load (some 8) (some 0) false (.s 11)⟩,
      ⟨(some 13), none, .call 128 [(.s 12)] []⟩,
      ⟨(some 2), none, .mv false (.s 13)⟩]) (
  .ret)
def f_command_reader_end_r0 : ACode :=
  .seq (
    .seq (
      .region [0, 8] [.norm [0]] [
        ⟨(some 3), none, .mv false (.s 0)⟩,
        ⟨(some 4), none, .nilchk (.s 3)⟩,
        ⟨(some 5), none, .fieldAddr 8 (.s 4)⟩,
        ⟨(some 6), none, .load none (some 0) false (.s 5)⟩,
        ⟨(some 7), none, .len false (.s 6)⟩,
        ⟨(some 8), none, .bin .gtr (.s 7) (.c (i64 0))⟩]) (
    f_command_reader_end_r1)) (
  f_command_reader_end_r2)
def f_command_reader_end : AFun :=
 { n := 1, wr := [], res := [.t 2], body :=
    .seq (
      .region [0] [] [
        ⟨(some 2), none, .mv false (.c (i64 0))⟩]) (
    f_command_reader_end_r0) }

/-- (*custody command.reader).skip (M) = 140; calls  -/
def f_command_reader_skip_r1 : ACode :=
  .cond (.s 8) (
    .region [0, 2] [.norm [0]] [
      ⟨(some 9), none, .mv false (.s 0)⟩,
      ⟨(some 10), none, .mv false (.s 0)⟩,
      ⟨(some 11), none, .nilchk (.s 10)⟩,
      ⟨(some 12), none, .fieldAddr 8 (.s 11)⟩,
      ⟨(some 13), none, .load none (some 0) false (.s 12)⟩,
      ⟨(some 14), none, .mv false (.s 1)⟩,
      ⟨(some 15), none, .slSl 1 (.s 13) (some (.s 14)) none none⟩,
      ⟨(some 16), none, .nilchk (.s 9)⟩,
      ⟨(some 17), none, .fieldAddr 8 (.s 16)⟩,
      ⟨none, none, .store none 0 true (.s 17) (.s 15)⟩]) (
    .ghost (.keep [0, 2]) .skip)
def f_command_reader_skip_r2 : ACode :=
  .seq (
    .region [0, 6] [] [
      ⟨(some 18), none, .mv false (.s 2)⟩,
      ⟨(some 6), none, .mv false (.s 18)⟩]) (
  .ret)
def f_command_reader_skip_r0 : ACode :=
  .seq (
    .seq (
      .region [0, 1, 2, 8] [] [
        ⟨(some 7), none, .mv false (.s 2)⟩,
        ⟨(some 8), none, .bin .eql (.s 7) (.c (i64 0))⟩]) (
    f_command_reader_skip_r1)) (
  f_command_reader_skip_r2)
def f_command_reader_skip : AFun :=
 { n := 3, wr := [], res := [.t 6], body :=
    .seq (
      .region [0, 1, 2] [] [
        ⟨(some 6), none, .mv false (.c (i64 0))⟩]) (
    f_command_reader_skip_r0) }

end Go.Abs
end

section
namespace Go.Abs
set_option maxRecDepth 100000
/-- custody custodyref28.Kind = 142; calls custodyref28.rows = 141 -/
def f_custodyref28_Kind_r3 : ACode :=
  .cond (.s 10) (
    .ghost (.keep [4, 5]) .skip) (
    .ghost (.keep []) (.exit 0))
def f_custodyref28_Kind_r5 : ACode :=
  .cond (.s 19) (
    .seq (
      .region [2, 3] [] [
        ⟨(some 20), none, .mv false (.s 5)⟩,
        ⟨(some 21), none, .bin .add (.s 20) (.c (i64 1))⟩,
        ⟨(some 2), none, .mv false (.s 21)⟩,
        ⟨(some 3), none, .mv false (.c (bo true))⟩]) (
    .ret)) (
    .ghost (.keep [4, 5]) .skip)
def f_custodyref28_Kind_r4 : ACode :=
  .seq (
    .block 1 (
      .seq (
        .region [4, 5, 19] [] [
          ⟨(some 13), none, .mv false (.s 4)⟩,
          ⟨(some 14), none, .mv false (.s 5)⟩,
          ⟨(some 15), none, .idxSl 8 (.s 13) (.s 14)⟩,
          ⟨(some 16), none, .fieldAddr 0 (.s 15)⟩,
          ⟨(some 17), none, .load none none false (.s 16)⟩,
          ⟨(some 18), none, .mv false (.s 0)⟩,
          ⟨(some 19), none, .bin .eql (.s 17) (.s 18)⟩]) (
      f_custodyref28_Kind_r5))) (
  .region [4, 5] [] [
    ⟨(some 11), none, .mv false (.s 5)⟩,
    ⟨(some 12), none, .bin .add (.s 11) (.c (i64 1))⟩,
    ⟨(some 5), none, .mv false (.s 12)⟩])
def f_custodyref28_Kind_l0 : ACode :=
  .seq (
    .seq (
      .region [4, 5, 10] [] [
        ⟨(some 7), none, .mv false (.s 5)⟩,
        ⟨(some 8), none, .mv false (.s 4)⟩,
        ⟨(some 9), none, .len false (.s 8)⟩,
        ⟨(some 10), none, .bin .lss (.s 7) (.s 9)⟩]) (
    f_custodyref28_Kind_r3)) (
  f_custodyref28_Kind_r4)
def f_custodyref28_Kind_r2 : ACode :=
  .block 0 (
    .loop f_custodyref28_Kind_l0)
def f_custodyref28_Kind_r6 : ACode :=
  .seq (
    .region [2, 3] [] [
      ⟨(some 2), none, .mv false (.c (i64 0))⟩,
      ⟨(some 3), none, .mv false (.c (bo false))⟩]) (
  .ret)
def f_custodyref28_Kind_r1 : ACode :=
  .seq (
    .seq (
      .region [4, 5] [] [
        ⟨(some 5), none, .mv false (.c (i64 0))⟩]) (
    f_custodyref28_Kind_r2)) (
  f_custodyref28_Kind_r6)
def f_custodyref28_Kind_r0 : ACode :=
  .seq (
    .region [4] [] [
      ⟨(some 6), none, .call 141 [] []⟩,
      ⟨(some 4), none, .mv true (.s 6)⟩]) (
  f_custodyref28_Kind_r1)
def f_custodyref28_Kind : AFun :=
 { n := 1, wr := [], res := [.t 2, .t 3], body :=
    .seq (
      .region [] [] [
        ⟨(some 2), none, .mv false (.c (i64 0))⟩,
        ⟨(some 3), none, .mv false (.c (bo false))⟩]) (
    f_custodyref28_Kind_r0) }

/-- custody custodyref28.Name = 143; calls custodyref28.rows = 141 -/
def f_custodyref28_Name_r1 : ACode :=
  .cond (.s 8) (
    .seq (
      .region [2] [] [
        ⟨(some 2), none, .mv false (.c (st []))⟩]) (
    .ret)) (
    .ghost (.keep []) .skip)
def f_custodyref28_Name_r2 : ACode :=
  .seq (
    .region [2] [] [
      ⟨(some 9), none, .call 141 [] []⟩,
      ⟨(some 10), none, .mv false (.s 0)⟩,
      ⟨(some 11), none, .bin .sub (.s 10) (.c (i64 1))⟩,
      ⟨(some 12), none, .idxSl 8 (.s 9) (.s 11)⟩,
      ⟨(some 13), none, .fieldAddr 0 (.s 12)⟩,
      ⟨(some 14), none, .load none none false (.s 13)⟩,
      ⟨(some 2), none, .mv false (.s 14)⟩]) (
  .ret)
def f_custodyref28_Name_r0 : ACode :=
  .seq (
    .seq (
      .region [8] [] [
        ⟨(some 3), none, .mv false (.s 0)⟩,
        ⟨(some 4), none, .bin .lss (.s 3) (.c (i64 1))⟩,
        ⟨(some 5), none, .mv false (.s 4)⟩,
        ⟨(some 6), (some (5, false)), .mv false (.s 0)⟩,
        ⟨(some 7), (some (5, false)), .bin .gtr (.s 6) (.c (i64 27))⟩,
        ⟨(some 8), none, .pick (.s 5) (.c (bo true)) (.s 7)⟩]) (
    f_custodyref28_Name_r1)) (
  f_custodyref28_Name_r2)
def f_custodyref28_Name : AFun :=
 { n := 1, wr := [], res := [.t 2], body :=
    .seq (
      .region [] [] [
        ⟨(some 2), none, .mv false (.c (st []))⟩]) (
    f_custodyref28_Name_r0) }

/-- custody custodyref28.Check = 146; calls custodyref28.isList = 145, custodyref28.rows = 141, custodyref28.within = 144 -/
def f_custodyref28_Check_r1 : ACode :=
  .cond (.s 11) (
    .seq (
      .region [2] [] [
        ⟨(some 2), none, .mv false (.c (i64 1))⟩]) (
    .ret)) (
    .ghost (.keep [1]) .skip)
def f_custodyref28_Check_r4 : ACode :=
  .cond (.s 63) (
    .seq (
      .region [2] [] [
        ⟨(some 2), none, .mv false (.c (i64 1))⟩]) (
    .ret)) (
    .ghost (.keep [1, 3]) .skip)
def f_custodyref28_Check_r6 : ACode :=
  .cond (.s 88) (
    .seq (
      .region [2] [] [
        ⟨(some 2), none, .mv false (.c (i64 1))⟩]) (
    .ret)) (
    .ghost (.keep [1, 3]) .skip)
def f_custodyref28_Check_r8 : ACode :=
  .cond (.s 94) (
    .seq (
      .region [2] [] [
        ⟨(some 2), none, .mv false (.c (i64 2))⟩]) (
    .ret)) (
    .ghost (.keep []) .skip)
def f_custodyref28_Check_r9 : ACode :=
  .seq (
    .region [2] [] [
      ⟨(some 2), none, .mv false (.c (i64 0))⟩]) (
  .ret)
def f_custodyref28_Check_r7 : ACode :=
  .seq (
    .seq (
      .region [94] [.norm [1, 3]] [
        ⟨(some 89), none, .fieldAddr 6 (.s 1)⟩,
        ⟨(some 90), none, .load none (some 1) false (.s 89)⟩,
        ⟨(some 91), none, .len true (.s 90)⟩,
        ⟨(some 92), none, .fieldAddr 7 (.s 3)⟩,
        ⟨(some 93), none, .load none (some 3) false (.s 92)⟩,
        ⟨(some 94), none, .bin .gtr (.s 91) (.s 93)⟩]) (
    f_custodyref28_Check_r8)) (
  f_custodyref28_Check_r9)
def f_custodyref28_Check_r5 : ACode :=
  .seq (
    .seq (
      .region [1, 3, 88] [.norm [1, 3]] [
        ⟨(some 64), none, .fieldAddr 7 (.s 1)⟩,
        ⟨(some 65), none, .load none (some 1) false (.s 64)⟩,
        ⟨(some 66), none, .fieldAddr 4 (.s 3)⟩,
        ⟨(some 67), none, .load none (some 3) false (.s 66)⟩,
        ⟨(some 68), none, .call 145 [(.s 65), (.s 67)] []⟩,
        ⟨(some 69), none, .un .not (.s 68)⟩,
        ⟨(some 70), none, .mv false (.s 69)⟩,
        ⟨(some 71), (some (70, false)), .fieldAddr 6 (.s 1)⟩,
        ⟨(some 72), (some (70, false)), .load none (some 1) false (.s 71)⟩,
        ⟨(some 73), (some (70, false)), .len true (.s 72)⟩,
        ⟨(some 74), (some (70, false)), .bin .gtr (.s 73) (.c (i64 0))⟩,
        ⟨(some 75), (some (70, false)), .mv false (.s 74)⟩,
        ⟨(some 76), (some (75, true)), .fieldAddr 5 (.s 3)⟩,
        ⟨(some 77), (some (75, true)), .load none (some 3) false (.s 76)⟩,
        ⟨(some 78), (some (75, true)), .un .not (.s 77)⟩,
        ⟨(some 79), (some (70, false)), .pick (.s 75) (.s 78) (.c (bo false))⟩,
        ⟨(some 80), none, .pick (.s 70) (.c (bo true)) (.s 79)⟩,
        ⟨(some 81), none, .mv false (.s 80)⟩,
        ⟨(some 82), (some (81, false)), .fieldAddr 6 (.s 1)⟩,
        ⟨(some 83), (some (81, false)), .load none (some 1) false (.s 82)⟩,
        ⟨(some 84), (some (81, false)), .len true (.s 83)⟩,
        ⟨(some 85), (some (81, false)), .fieldAddr 6 (.s 3)⟩,
        ⟨(some 86), (some (81, false)), .load none (some 3) false (.s 85)⟩,
        ⟨(some 87), (some (81, false)), .bin .lss (.s 84) (.s 86)⟩,
        ⟨(some 88), none, .pick (.s 81) (.c (bo true)) (.s 87)⟩]) (
    f_custodyref28_Check_r6)) (
  f_custodyref28_Check_r7)
def f_custodyref28_Check_r3 : ACode :=
  .seq (
    .seq (
      .region [1, 3, 63] [.norm [1, 3]] [
        ⟨(some 18), none, .fieldAddr 1 (.s 1)⟩,
        ⟨(some 19), none, .load none (some 1) false (.s 18)⟩,
        ⟨(some 20), none, .fieldAddr 1 (.s 3)⟩,
        ⟨(some 21), none, .load none (some 3) false (.s 20)⟩,
        ⟨(some 22), none, .call 144 [(.s 19), (.s 21), (.c (i64 4294967296))] []⟩,
        ⟨(some 23), none, .un .not (.s 22)⟩,
        ⟨(some 24), none, .mv false (.s 23)⟩,
        ⟨(some 25), (some (24, false)), .fieldAddr 2 (.s 1)⟩,
        ⟨(some 26), (some (24, false)), .load none (some 1) false (.s 25)⟩,
        ⟨(some 27), (some (24, false)), .fieldAddr 2 (.s 3)⟩,
        ⟨(some 28), (some (24, false)), .load none (some 3) false (.s 27)⟩,
        ⟨(some 29), (some (24, false)), .call 144 [(.s 26), (.s 28), (.c (i64 4294967296))] []⟩,
        ⟨(some 30), (some (24, false)), .un .not (.s 29)⟩,
        ⟨(some 31), none, .pick (.s 24) (.c (bo true)) (.s 30)⟩,
        ⟨(some 32), none, .mv false (.s 31)⟩,
        ⟨(some 33), (some (32, false)), .fieldAddr 3 (.s 1)⟩,
        ⟨(some 34), (some (32, false)), .load none (some 1) false (.s 33)⟩,
        ⟨(some 35), (some (32, false)), .fieldAddr 3 (.s 3)⟩,
        ⟨(some 36), (some (32, false)), .load none (some 3) false (.s 35)⟩,
        ⟨(some 37), (some (32, false)), .call 144 [(.s 34), (.s 36), (.c (i64 31))] []⟩,
        ⟨(some 38), (some (32, false)), .un .not (.s 37)⟩,
        ⟨(some 39), none, .pick (.s 32) (.c (bo true)) (.s 38)⟩,
        ⟨(some 40), none, .mv false (.s 39)⟩,
        ⟨(some 41), (some (40, false)), .fieldAddr 5 (.s 1)⟩,
        ⟨(some 42), (some (40, false)), .load none (some 1) false (.s 41)⟩,
        ⟨(some 43), (some (40, false)), .fieldAddr 3 (.s 3)⟩,
        ⟨(some 44), (some (40, false)), .load none (some 3) false (.s 43)⟩,
        ⟨(some 45), (some (40, false)), .call 144 [(.s 42), (.s 44), (.c (i64 1099511627776))] []⟩,
        ⟨(some 46), (some (40, false)), .un .not (.s 45)⟩,
        ⟨(some 47), none, .pick (.s 40) (.c (bo true)) (.s 46)⟩,
        ⟨(some 48), none, .mv false (.s 47)⟩,
        ⟨(some 49), (some (48, false)), .fieldAddr 4 (.s 1)⟩,
        ⟨(some 50), (some (48, false)), .load none (some 1) false (.s 49)⟩,
        ⟨(some 51), (some (48, false)), .fieldAddr 3 (.s 3)⟩,
        ⟨(some 52), (some (48, false)), .load none (some 3) false (.s 51)⟩,
        ⟨(some 53), (some (48, false)), .call 144 [(.s 50), (.s 52), (.c (i64 956))] []⟩,
        ⟨(some 54), (some (48, false)), .un .not (.s 53)⟩,
        ⟨(some 55), none, .pick (.s 48) (.c (bo true)) (.s 54)⟩,
        ⟨(some 56), none, .mv false (.s 55)⟩,
        ⟨(some 57), (some (56, false)), .fieldAddr 4 (.s 1)⟩,
        ⟨(some 58), (some (56, false)), .load none (some 1) false (.s 57)⟩,
        ⟨(some 59), (some (56, false)), .bin .and (.s 58) (.c (i64 956))⟩,
        ⟨(some 60), (some (56, false)), .fieldAddr 4 (.s 1)⟩,
        ⟨(some 61), (some (56, false)), .load none (some 1) false (.s 60)⟩,
        ⟨(some 62), (some (56, false)), .bin .neq (.s 59) (.s 61)⟩,
        ⟨(some 63), none, .pick (.s 56) (.c (bo true)) (.s 62)⟩]) (
    f_custodyref28_Check_r4)) (
  f_custodyref28_Check_r5)
def f_custodyref28_Check_r2 : ACode :=
  .seq (
    .region [1, 3] [.norm [1, 3]] [
      ⟨(some 12), none, .call 141 [] []⟩,
      ⟨(some 13), none, .fieldAddr 0 (.s 1)⟩,
      ⟨(some 14), none, .load none (some 1) false (.s 13)⟩,
      ⟨(some 15), none, .bin .sub (.s 14) (.c (i64 1))⟩,
      ⟨(some 16), none, .idxSl 8 (.s 12) (.s 15)⟩,
      ⟨(some 17), none, .load (some 8) none false (.s 16)⟩,
      ⟨(some 3), none, .alloc 3 ([st []] ++ List.replicate 5 (bo false) ++ [i64 0, i64 0])⟩,
      ⟨none, none, .store (some 8) 3 false (.s 3) (.s 17)⟩]) (
  f_custodyref28_Check_r3)
def f_custodyref28_Check_r0 : ACode :=
  .seq (
    .seq (
      .region [1, 11] [.norm [1]] [
        ⟨(some 4), none, .fieldAddr 0 (.s 1)⟩,
        ⟨(some 5), none, .load none (some 1) false (.s 4)⟩,
        ⟨(some 6), none, .bin .lss (.s 5) (.c (i64 1))⟩,
        ⟨(some 7), none, .mv false (.s 6)⟩,
        ⟨(some 8), (some (7, false)), .fieldAddr 0 (.s 1)⟩,
        ⟨(some 9), (some (7, false)), .load none (some 1) false (.s 8)⟩,
        ⟨(some 10), (some (7, false)), .bin .gtr (.s 9) (.c (i64 27))⟩,
        ⟨(some 11), none, .pick (.s 7) (.c (bo true)) (.s 10)⟩]) (
    f_custodyref28_Check_r1)) (
  f_custodyref28_Check_r2)
def f_custodyref28_Check : AFun :=
 { n := 1, wr := [], res := [.t 2], body :=
    .seq (
      .region [1] [.norm [1]] [
        ⟨(some 1), none, .box 1 (some 8) false (.s 0)⟩,
        ⟨(some 2), none, .mv false (.c (i64 0))⟩]) (
    f_custodyref28_Check_r0) }

/-- custody custodyref28.Encode = 147; calls custodyref01.Bytes = 29, custodyref01.Int = 30, custodyref01.Ints = 40 -/
def f_custodyref28_Encode_r4 : ACode :=
  .cond (.s 22) (
    .ghost (.keep [1, 3, 4, 5]) .skip) (
    .ghost (.keep [1, 3]) (.exit 0))
def f_custodyref28_Encode_r5 : ACode :=
  .seq (
    .block 1 (
      .region [1, 3, 4, 5] [.norm [1]] [
        ⟨(some 25), none, .mv true (.s 3)⟩,
        ⟨(some 26), none, .mv false (.s 4)⟩,
        ⟨(some 27), none, .mv false (.s 5)⟩,
        ⟨(some 28), none, .idxSl 1 (.s 26) (.s 27)⟩,
        ⟨(some 29), none, .load none none false (.s 28)⟩,
        ⟨(some 30), none, .call 30 [(.s 29)] []⟩,
        ⟨(some 31), none, .append 1 1 false none none 25 (.s 30)⟩,
        ⟨(some 3), none, .mv true (.s 31)⟩])) (
  .region [1, 3, 4, 5] [] [
    ⟨(some 23), none, .mv false (.s 5)⟩,
    ⟨(some 24), none, .bin .add (.s 23) (.c (i64 1))⟩,
    ⟨(some 5), none, .mv false (.s 24)⟩])
def f_custodyref28_Encode_l0 : ACode :=
  .seq (
    .seq (
      .region [1, 3, 4, 5, 22] [] [
        ⟨(some 19), none, .mv false (.s 5)⟩,
        ⟨(some 20), none, .mv false (.s 4)⟩,
        ⟨(some 21), none, .len false (.s 20)⟩,
        ⟨(some 22), none, .bin .lss (.s 19) (.s 21)⟩]) (
    f_custodyref28_Encode_r4)) (
  f_custodyref28_Encode_r5)
def f_custodyref28_Encode_r3 : ACode :=
  .block 0 (
    .loop f_custodyref28_Encode_l0)
def f_custodyref28_Encode_r7 : ACode :=
  .seq (
    .region [2] [.norm [1]] [
      ⟨(some 37), none, .mv true (.s 3)⟩,
      ⟨(some 38), none, .fieldAddr 7 (.s 1)⟩,
      ⟨(some 39), none, .load none (some 1) false (.s 38)⟩,
      ⟨(some 40), none, .call 40 [(.s 39)] []⟩,
      ⟨(some 41), none, .append 1 1 false none none 37 (.s 40)⟩,
      ⟨(some 2), none, .mv true (.s 41)⟩]) (
  .ret)
def f_custodyref28_Encode_r6 : ACode :=
  .seq (
    .region [1, 3] [.norm [1]] [
      ⟨(some 32), none, .mv true (.s 3)⟩,
      ⟨(some 33), none, .fieldAddr 6 (.s 1)⟩,
      ⟨(some 34), none, .load none (some 1) false (.s 33)⟩,
      ⟨(some 35), none, .call 29 [(.s 34)] []⟩,
      ⟨(some 36), none, .append 1 1 false none none 32 (.s 35)⟩,
      ⟨(some 3), none, .mv true (.s 36)⟩]) (
  f_custodyref28_Encode_r7)
def f_custodyref28_Encode_r2 : ACode :=
  .seq (
    .seq (
      .region [1, 3, 4, 5] [] [
        ⟨(some 5), none, .mv false (.c (i64 0))⟩]) (
    f_custodyref28_Encode_r3)) (
  f_custodyref28_Encode_r6)
def f_custodyref28_Encode_r1 : ACode :=
  .seq (
    .region [1, 3, 4] [.norm [1]] [
      ⟨(some 6), none, .fieldAddr 0 (.s 1)⟩,
      ⟨(some 7), none, .load none (some 1) false (.s 6)⟩,
      ⟨(some 8), none, .fieldAddr 1 (.s 1)⟩,
      ⟨(some 9), none, .load none (some 1) false (.s 8)⟩,
      ⟨(some 10), none, .fieldAddr 2 (.s 1)⟩,
      ⟨(some 11), none, .load none (some 1) false (.s 10)⟩,
      ⟨(some 12), none, .fieldAddr 3 (.s 1)⟩,
      ⟨(some 13), none, .load none (some 1) false (.s 12)⟩,
      ⟨(some 14), none, .fieldAddr 4 (.s 1)⟩,
      ⟨(some 15), none, .load none (some 1) false (.s 14)⟩,
      ⟨(some 16), none, .fieldAddr 5 (.s 1)⟩,
      ⟨(some 17), none, .load none (some 1) false (.s 16)⟩,
      ⟨(some 18), none, .buildSl 1 6 [i64 0, i64 0, i64 0, i64 0, i64 0, i64 0] [(0, 1, (.s 7)), (1, 1, (.s 9)), (2, 1, (.s 11)), (3, 1, (.s 13)), (4, 1, (.s 15)), (5, 1, (.s 17))]⟩,
      ⟨(some 4), none, .mv true (.s 18)⟩]) (
  f_custodyref28_Encode_r2)
def f_custodyref28_Encode_r0 : ACode :=
  .seq (
    .region [1, 3] [] [
      ⟨(some 3), none, .mv true (.c (.sl (.own 1) none 0 []))⟩]) (
  f_custodyref28_Encode_r1)
def f_custodyref28_Encode : AFun :=
 { n := 1, wr := [], res := [.t 2], body :=
    .seq (
      .region [1] [.norm [1]] [
        ⟨(some 1), none, .box 1 (some 8) false (.s 0)⟩,
        ⟨(some 2), none, .mv true (.c (.sl (.own 1) none 0 []))⟩]) (
    f_custodyref28_Encode_r0) }

/-- custody custodyref28.Digest = 148; calls custodyref02.Of = 20, custodyref28.Encode = 147 -/
def f_custodyref28_Digest_r0 : ACode :=
  .seq (
    .region [2] [.norm [1, 2]] [
      ⟨(some 3), none, .load (some 8) (some 1) false (.s 1)⟩,
      ⟨(some 4), none, .call 147 [(.s 3)] []⟩,
      ⟨(some 5), none, .toStr none (.s 4)⟩,
      ⟨(some 6), none, .buildSl 1 1 [st []] [(0, 1, (.s 5))]⟩,
      ⟨(some 7), none, .call 20 [(.c (i64 7)), (.s 6)] []⟩,
      ⟨none, none, .store (some 16) 2 false (.s 2) (.s 7)⟩]) (
  .ret)
def f_custodyref28_Digest : AFun :=
 { n := 1, wr := [], res := [.cell 2 (some 16) 2], body :=
    .seq (
      .region [1, 2] [.norm [1, 2]] [
        ⟨(some 1), none, .box 1 (some 8) false (.s 0)⟩,
        ⟨(some 2), none, .alloc 2 (bys (zeros 16))⟩]) (
    f_custodyref28_Digest_r0) }

/-- custody custodyref28.Same = 149; calls custodyref01.SameInts = 54 -/
def f_custodyref28_Same_r0 : ACode :=
  .seq (
    .region [4] [.norm [2, 3]] [
      ⟨(some 5), none, .fieldAddr 0 (.s 2)⟩,
      ⟨(some 6), none, .load none (some 2) false (.s 5)⟩,
      ⟨(some 7), none, .fieldAddr 0 (.s 3)⟩,
      ⟨(some 8), none, .load none (some 3) false (.s 7)⟩,
      ⟨(some 9), none, .bin .eql (.s 6) (.s 8)⟩,
      ⟨(some 10), none, .mv false (.s 9)⟩,
      ⟨(some 11), (some (10, true)), .fieldAddr 1 (.s 2)⟩,
      ⟨(some 12), (some (10, true)), .load none (some 2) false (.s 11)⟩,
      ⟨(some 13), (some (10, true)), .fieldAddr 1 (.s 3)⟩,
      ⟨(some 14), (some (10, true)), .load none (some 3) false (.s 13)⟩,
      ⟨(some 15), (some (10, true)), .bin .eql (.s 12) (.s 14)⟩,
      ⟨(some 16), none, .pick (.s 10) (.s 15) (.c (bo false))⟩,
      ⟨(some 17), none, .mv false (.s 16)⟩,
      ⟨(some 18), (some (17, true)), .fieldAddr 2 (.s 2)⟩,
      ⟨(some 19), (some (17, true)), .load none (some 2) false (.s 18)⟩,
      ⟨(some 20), (some (17, true)), .fieldAddr 2 (.s 3)⟩,
      ⟨(some 21), (some (17, true)), .load none (some 3) false (.s 20)⟩,
      ⟨(some 22), (some (17, true)), .bin .eql (.s 19) (.s 21)⟩,
      ⟨(some 23), none, .pick (.s 17) (.s 22) (.c (bo false))⟩,
      ⟨(some 24), none, .mv false (.s 23)⟩,
      ⟨(some 25), (some (24, true)), .fieldAddr 3 (.s 2)⟩,
      ⟨(some 26), (some (24, true)), .load none (some 2) false (.s 25)⟩,
      ⟨(some 27), (some (24, true)), .fieldAddr 3 (.s 3)⟩,
      ⟨(some 28), (some (24, true)), .load none (some 3) false (.s 27)⟩,
      ⟨(some 29), (some (24, true)), .bin .eql (.s 26) (.s 28)⟩,
      ⟨(some 30), none, .pick (.s 24) (.s 29) (.c (bo false))⟩,
      ⟨(some 31), none, .mv false (.s 30)⟩,
      ⟨(some 32), (some (31, true)), .fieldAddr 4 (.s 2)⟩,
      ⟨(some 33), (some (31, true)), .load none (some 2) false (.s 32)⟩,
      ⟨(some 34), (some (31, true)), .fieldAddr 4 (.s 3)⟩,
      ⟨(some 35), (some (31, true)), .load none (some 3) false (.s 34)⟩,
      ⟨(some 36), (some (31, true)), .bin .eql (.s 33) (.s 35)⟩,
      ⟨(some 37), none, .pick (.s 31) (.s 36) (.c (bo false))⟩,
      ⟨(some 38), none, .mv false (.s 37)⟩,
      ⟨(some 39), (some (38, true)), .fieldAddr 5 (.s 2)⟩,
      ⟨(some 40), (some (38, true)), .load none (some 2) false (.s 39)⟩,
      ⟨(some 41), (some (38, true)), .fieldAddr 5 (.s 3)⟩,
      ⟨(some 42), (some (38, true)), .load none (some 3) false (.s 41)⟩,
      ⟨(some 43), (some (38, true)), .bin .eql (.s 40) (.s 42)⟩,
      ⟨(some 44), none, .pick (.s 38) (.s 43) (.c (bo false))⟩,
      ⟨(some 45), none, .mv false (.s 44)⟩,
      ⟨(some 46), (some (45, true)), .fieldAddr 6 (.s 2)⟩,
      ⟨(some 47), (some (45, true)), .load none (some 2) false (.s 46)⟩,
      ⟨(some 48), (some (45, true)), .fieldAddr 6 (.s 3)⟩,
      ⟨(some 49), (some (45, true)), .load none (some 3) false (.s 48)⟩,
      ⟨(some 50), (some (45, true)), .bin .eql (.s 47) (.s 49)⟩,
      ⟨(some 51), none, .pick (.s 45) (.s 50) (.c (bo false))⟩,
      ⟨(some 52), none, .mv false (.s 51)⟩,
      ⟨(some 53), (some (52, true)), .fieldAddr 7 (.s 2)⟩,
      ⟨(some 54), (some (52, true)), .load none (some 2) false (.s 53)⟩,
      ⟨(some 55), (some (52, true)), .fieldAddr 7 (.s 3)⟩,
      ⟨(some 56), (some (52, true)), .load none (some 3) false (.s 55)⟩,
      ⟨(some 57), (some (52, true)), .call 54 [(.s 54), (.s 56)] []⟩,
      ⟨(some 58), none, .pick (.s 52) (.s 57) (.c (bo false))⟩,
      ⟨(some 4), none, .mv false (.s 58)⟩]) (
  .ret)
def f_custodyref28_Same : AFun :=
 { n := 2, wr := [], res := [.t 4], body :=
    .seq (
      .region [2, 3] [.norm [2, 3]] [
        ⟨(some 2), none, .box 2 (some 8) false (.s 0)⟩,
        ⟨(some 3), none, .box 3 (some 8) false (.s 1)⟩,
        ⟨(some 4), none, .mv false (.c (bo false))⟩]) (
    f_custodyref28_Same_r0) }

/-- custody custodyref28.Decode = 150; calls custodyref01.GetBytes = 50, custodyref01.GetInt = 46, custodyref01.GetInts = 53, custodyref28.Check = 146 -/
def f_custodyref28_Decode_r4 : ACode :=
  .cond (.s 19) (
    .ghost (.keep [2, 4, 5, 6]) .skip) (
    .ghost (.keep [2, 4, 5]) (.exit 0))
def f_custodyref28_Decode_r7 : ACode :=
  .cond (.s 31) (
    .seq (
      .region [2, 3] [.norm [2, 4]] [
        ⟨(some 32), none, .build [i64 0, i64 0, i64 0, i64 0, i64 0, i64 0, st [], .sl .plain none 0 []] []⟩,
        ⟨(some 33), none, .mv false (.s 9)⟩,
        ⟨none, none, .store (some 8) 2 false (.s 2) (.s 32)⟩,
        ⟨(some 3), none, .mv false (.s 33)⟩]) (
    .ret)) (
    .ghost (.keep [2, 4, 5, 6, 7, 8]) .skip)
def f_custodyref28_Decode_r9 : ACode :=
  .region [2, 4, 5, 6] [] [
    ⟨(some 37), none, .mv false (.s 5)⟩,
    ⟨(some 38), none, .mv false (.s 8)⟩,
    ⟨(some 39), none, .bin .add (.s 37) (.s 38)⟩,
    ⟨(some 5), none, .mv false (.s 39)⟩]
def f_custodyref28_Decode_r8 : ACode :=
  .seq (
    .region [2, 4, 5, 6, 8] [.norm [2, 4]] [
      ⟨(some 34), none, .mv false (.s 6)⟩,
      ⟨(some 35), none, .mv false (.s 7)⟩,
      ⟨(some 36), none, .idxArr 6 1 (.s 4) (.s 34)⟩,
      ⟨none, none, .store none 4 false (.s 36) (.s 35)⟩]) (
  f_custodyref28_Decode_r9)
def f_custodyref28_Decode_r6 : ACode :=
  .seq (
    .seq (
      .region [2, 4, 5, 6, 7, 8, 9, 31] [] [
        ⟨(some 30), none, .mv false (.s 9)⟩,
        ⟨(some 31), none, .bin .neq (.s 30) (.c (i64 0))⟩]) (
    f_custodyref28_Decode_r7)) (
  f_custodyref28_Decode_r8)
def f_custodyref28_Decode_r5 : ACode :=
  .seq (
    .block 1 (
      .seq (
        .region [2, 4, 5, 6, 7, 8, 9] [] [
          ⟨(some 23), none, .mv false (.s 0)⟩,
          ⟨(some 24), none, .mv false (.s 5)⟩,
          ⟨(some 25), none, .slSl 1 (.s 23) (some (.s 24)) none none⟩,
          ⟨(some 26), none, .call 46 [(.s 25)] []⟩,
          ⟨(some 22), none, .mv false (.s 26)⟩,
          ⟨(some 27), none, .extract 0 (.s 22)⟩,
          ⟨(some 28), none, .extract 1 (.s 22)⟩,
          ⟨(some 29), none, .extract 2 (.s 22)⟩,
          ⟨(some 7), none, .mv false (.s 27)⟩,
          ⟨(some 8), none, .mv false (.s 28)⟩,
          ⟨(some 9), none, .mv false (.s 29)⟩]) (
      f_custodyref28_Decode_r6))) (
  .region [2, 4, 5, 6] [] [
    ⟨(some 20), none, .mv false (.s 6)⟩,
    ⟨(some 21), none, .bin .add (.s 20) (.c (i64 1))⟩,
    ⟨(some 6), none, .mv false (.s 21)⟩])
def f_custodyref28_Decode_l0 : ACode :=
  .seq (
    .seq (
      .region [2, 4, 5, 6, 19] [] [
        ⟨(some 18), none, .mv false (.s 6)⟩,
        ⟨(some 19), none, .bin .lss (.s 18) (.c (i64 6))⟩]) (
    f_custodyref28_Decode_r4)) (
  f_custodyref28_Decode_r5)
def f_custodyref28_Decode_r3 : ACode :=
  .block 0 (
    .loop f_custodyref28_Decode_l0)
def f_custodyref28_Decode_r12 : ACode :=
  .cond (.s 49) (
    .seq (
      .region [2, 3] [.norm [2, 4]] [
        ⟨(some 50), none, .build [i64 0, i64 0, i64 0, i64 0, i64 0, i64 0, st [], .sl .plain none 0 []] []⟩,
        ⟨(some 51), none, .mv false (.s 12)⟩,
        ⟨none, none, .store (some 8) 2 false (.s 2) (.s 50)⟩,
        ⟨(some 3), none, .mv false (.s 51)⟩]) (
    .ret)) (
    .ghost (.keep [2, 4, 5, 10, 11]) .skip)
def f_custodyref28_Decode_r15 : ACode :=
  .cond (.s 63) (
    .seq (
      .region [2, 3] [.norm [2, 4]] [
        ⟨(some 64), none, .build [i64 0, i64 0, i64 0, i64 0, i64 0, i64 0, st [], .sl .plain none 0 []] []⟩,
        ⟨(some 65), none, .mv false (.s 15)⟩,
        ⟨none, none, .store (some 8) 2 false (.s 2) (.s 64)⟩,
        ⟨(some 3), none, .mv false (.s 65)⟩]) (
    .ret)) (
    .ghost (.keep [2, 4, 5, 10, 11, 13, 14]) .skip)
def f_custodyref28_Decode_r17 : ACode :=
  .cond (.s 73) (
    .seq (
      .region [2, 3] [.norm [2, 4]] [
        ⟨(some 74), none, .build [i64 0, i64 0, i64 0, i64 0, i64 0, i64 0, st [], .sl .plain none 0 []] []⟩,
        ⟨none, none, .store (some 8) 2 false (.s 2) (.s 74)⟩,
        ⟨(some 3), none, .mv false (.c (i64 6))⟩]) (
    .ret)) (
    .ghost (.keep [2, 4, 10, 13]) .skip)
def f_custodyref28_Decode_r21 : ACode :=
  .cond (.s 93) (
    .seq (
      .region [2, 3] [.norm [2, 4, 16]] [
        ⟨(some 94), none, .build [i64 0, i64 0, i64 0, i64 0, i64 0, i64 0, st [], .sl .plain none 0 []] []⟩,
        ⟨(some 95), none, .mv false (.s 17)⟩,
        ⟨none, none, .store (some 8) 2 false (.s 2) (.s 94)⟩,
        ⟨(some 3), none, .mv false (.s 95)⟩]) (
    .ret)) (
    .ghost (.keep [2, 16]) .skip)
def f_custodyref28_Decode_r22 : ACode :=
  .seq (
    .region [2, 3] [.norm [2, 4, 16]] [
      ⟨(some 96), none, .load (some 8) (some 16) false (.s 16)⟩,
      ⟨none, none, .store (some 8) 2 false (.s 2) (.s 96)⟩,
      ⟨(some 3), none, .mv false (.c (i64 0))⟩]) (
  .ret)
def f_custodyref28_Decode_r20 : ACode :=
  .seq (
    .seq (
      .region [2, 16, 17, 93] [] [
        ⟨(some 92), none, .mv false (.s 17)⟩,
        ⟨(some 93), none, .bin .neq (.s 92) (.c (i64 0))⟩]) (
    f_custodyref28_Decode_r21)) (
  f_custodyref28_Decode_r22)
def f_custodyref28_Decode_r19 : ACode :=
  .seq (
    .region [2, 16, 17] [.norm [2, 4, 16]] [
      ⟨(some 90), none, .load (some 8) (some 16) false (.s 16)⟩,
      ⟨(some 91), none, .call 146 [(.s 90)] []⟩,
      ⟨(some 17), none, .mv false (.s 91)⟩]) (
  f_custodyref28_Decode_r20)
def f_custodyref28_Decode_r18 : ACode :=
  .seq (
    .region [2, 16] [.norm [2, 4, 16]] [
      ⟨(some 75), none, .idxArr 6 1 (.s 4) (.c (i64 0))⟩,
      ⟨(some 76), none, .load none (some 4) false (.s 75)⟩,
      ⟨(some 77), none, .idxArr 6 1 (.s 4) (.c (i64 1))⟩,
      ⟨(some 78), none, .load none (some 4) false (.s 77)⟩,
      ⟨(some 79), none, .idxArr 6 1 (.s 4) (.c (i64 2))⟩,
      ⟨(some 80), none, .load none (some 4) false (.s 79)⟩,
      ⟨(some 81), none, .idxArr 6 1 (.s 4) (.c (i64 3))⟩,
      ⟨(some 82), none, .load none (some 4) false (.s 81)⟩,
      ⟨(some 83), none, .idxArr 6 1 (.s 4) (.c (i64 4))⟩,
      ⟨(some 84), none, .load none (some 4) false (.s 83)⟩,
      ⟨(some 85), none, .idxArr 6 1 (.s 4) (.c (i64 5))⟩,
      ⟨(some 86), none, .load none (some 4) false (.s 85)⟩,
      ⟨(some 87), none, .mv false (.s 10)⟩,
      ⟨(some 88), none, .mv true (.s 13)⟩,
      ⟨(some 89), none, .build [i64 0, i64 0, i64 0, i64 0, i64 0, i64 0, st [], .sl .plain none 0 []] [(0, 1, (.s 76)), (1, 1, (.s 78)), (2, 1, (.s 80)), (3, 1, (.s 82)), (4, 1, (.s 84)), (5, 1, (.s 86)), (6, 1, (.s 87)), (7, 1, (.s 88))]⟩,
      ⟨(some 16), none, .alloc 16 (List.replicate 6 (i64 0) ++ [st []] ++ [.sl .plain none 0 []])⟩,
      ⟨none, none, .store (some 8) 16 false (.s 16) (.s 89)⟩]) (
  f_custodyref28_Decode_r19)
def f_custodyref28_Decode_r16 : ACode :=
  .seq (
    .seq (
      .region [2, 4, 10, 13, 73] [] [
        ⟨(some 66), none, .mv false (.s 5)⟩,
        ⟨(some 67), none, .mv false (.s 11)⟩,
        ⟨(some 68), none, .bin .add (.s 66) (.s 67)⟩,
        ⟨(some 69), none, .mv false (.s 14)⟩,
        ⟨(some 70), none, .bin .add (.s 68) (.s 69)⟩,
        ⟨(some 71), none, .mv false (.s 0)⟩,
        ⟨(some 72), none, .len false (.s 71)⟩,
        ⟨(some 73), none, .bin .lss (.s 70) (.s 72)⟩]) (
    f_custodyref28_Decode_r17)) (
  f_custodyref28_Decode_r18)
def f_custodyref28_Decode_r14 : ACode :=
  .seq (
    .seq (
      .region [2, 4, 5, 10, 11, 13, 14, 15, 63] [] [
        ⟨(some 62), none, .mv false (.s 15)⟩,
        ⟨(some 63), none, .bin .neq (.s 62) (.c (i64 0))⟩]) (
    f_custodyref28_Decode_r15)) (
  f_custodyref28_Decode_r16)
def f_custodyref28_Decode_r13 : ACode :=
  .seq (
    .region [2, 4, 5, 10, 11, 13, 14, 15] [] [
      ⟨(some 53), none, .mv false (.s 0)⟩,
      ⟨(some 54), none, .mv false (.s 5)⟩,
      ⟨(some 55), none, .mv false (.s 11)⟩,
      ⟨(some 56), none, .bin .add (.s 54) (.s 55)⟩,
      ⟨(some 57), none, .slSl 1 (.s 53) (some (.s 56)) none none⟩,
      ⟨(some 58), none, .call 53 [(.s 57)] []⟩,
      ⟨(some 52), none, .mv false (.s 58)⟩,
      ⟨(some 59), none, .extract 0 (.s 52)⟩,
      ⟨(some 60), none, .extract 1 (.s 52)⟩,
      ⟨(some 61), none, .extract 2 (.s 52)⟩,
      ⟨(some 13), none, .mv true (.s 59)⟩,
      ⟨(some 14), none, .mv false (.s 60)⟩,
      ⟨(some 15), none, .mv false (.s 61)⟩]) (
  f_custodyref28_Decode_r14)
def f_custodyref28_Decode_r11 : ACode :=
  .seq (
    .seq (
      .region [2, 4, 5, 10, 11, 12, 49] [] [
        ⟨(some 48), none, .mv false (.s 12)⟩,
        ⟨(some 49), none, .bin .neq (.s 48) (.c (i64 0))⟩]) (
    f_custodyref28_Decode_r12)) (
  f_custodyref28_Decode_r13)
def f_custodyref28_Decode_r10 : ACode :=
  .seq (
    .region [2, 4, 5, 10, 11, 12] [] [
      ⟨(some 41), none, .mv false (.s 0)⟩,
      ⟨(some 42), none, .mv false (.s 5)⟩,
      ⟨(some 43), none, .slSl 1 (.s 41) (some (.s 42)) none none⟩,
      ⟨(some 44), none, .call 50 [(.s 43)] []⟩,
      ⟨(some 40), none, .mv false (.s 44)⟩,
      ⟨(some 45), none, .extract 0 (.s 40)⟩,
      ⟨(some 46), none, .extract 1 (.s 40)⟩,
      ⟨(some 47), none, .extract 2 (.s 40)⟩,
      ⟨(some 10), none, .mv false (.s 45)⟩,
      ⟨(some 11), none, .mv false (.s 46)⟩,
      ⟨(some 12), none, .mv false (.s 47)⟩]) (
  f_custodyref28_Decode_r11)
def f_custodyref28_Decode_r2 : ACode :=
  .seq (
    .seq (
      .region [2, 4, 5, 6] [] [
        ⟨(some 6), none, .mv false (.c (i64 0))⟩]) (
    f_custodyref28_Decode_r3)) (
  f_custodyref28_Decode_r10)
def f_custodyref28_Decode_r1 : ACode :=
  .seq (
    .region [2, 4, 5] [] [
      ⟨(some 5), none, .mv false (.c (i64 0))⟩]) (
  f_custodyref28_Decode_r2)
def f_custodyref28_Decode_r0 : ACode :=
  .seq (
    .region [2, 4] [.norm [2, 4]] [
      ⟨(some 4), none, .alloc 4 (List.replicate 6 (i64 0))⟩]) (
  f_custodyref28_Decode_r1)
def f_custodyref28_Decode : AFun :=
 { n := 1, wr := [], res := [.cell 2 (some 8) 2, .t 3], body :=
    .seq (
      .region [2] [.norm [2]] [
        ⟨(some 2), none, .alloc 2 (List.replicate 6 (i64 0) ++ [st []] ++ [.sl .plain none 0 []])⟩,
        ⟨(some 3), none, .mv false (.c (i64 0))⟩]) (
    f_custodyref28_Decode_r0) }

/-- custody custodyref28.rows = 141; calls  -/
def f_custodyref28_rows_r0 : ACode :=
  .seq (
    .region [0] [] [
      ⟨(some 1), none, .build [st [], bo false, bo false, bo false, bo false, bo false, i64 0, i64 0] [(0, 1, (.c (st [103, 101, 110, 101, 114, 97, 116, 101]))), (3, 1, (.c (bo true)))]⟩,
      ⟨(some 2), none, .build [st [], bo false, bo false, bo false, bo false, bo false, i64 0, i64 0] [(0, 1, (.c (st [105, 109, 112, 111, 114, 116]))), (3, 1, (.c (bo true))), (5, 1, (.c (bo true))), (6, 1, (.c (i64 32))), (7, 1, (.c (i64 32)))]⟩,
      ⟨(some 3), none, .build [st [], bo false, bo false, bo false, bo false, bo false, i64 0, i64 0] [(0, 1, (.c (st [101, 120, 112, 111, 114, 116]))), (1, 1, (.c (bo true)))]⟩,
      ⟨(some 4), none, .build [st [], bo false, bo false, bo false, bo false, bo false, i64 0, i64 0] [(0, 1, (.c (st [101, 110, 99, 114, 121, 112, 116]))), (1, 1, (.c (bo true))), (5, 1, (.c (bo true))), (7, 1, (.c (i64 1000)))]⟩,
      ⟨(some 5), none, .build [st [], bo false, bo false, bo false, bo false, bo false, i64 0, i64 0] [(0, 1, (.c (st [100, 101, 99, 114, 121, 112, 116]))), (1, 1, (.c (bo true))), (5, 1, (.c (bo true))), (6, 1, (.c (i64 28))), (7, 1, (.c (i64 1028)))]⟩,
      ⟨(some 6), none, .build [st [], bo false, bo false, bo false, bo false, bo false, i64 0, i64 0] [(0, 1, (.c (st [109, 97, 99]))), (1, 1, (.c (bo true))), (5, 1, (.c (bo true))), (7, 1, (.c (i64 1000)))]⟩,
      ⟨(some 7), none, .build [st [], bo false, bo false, bo false, bo false, bo false, i64 0, i64 0] [(0, 1, (.c (st [119, 114, 97, 112]))), (1, 1, (.c (bo true))), (2, 1, (.c (bo true)))]⟩,
      ⟨(some 8), none, .build [st [], bo false, bo false, bo false, bo false, bo false, i64 0, i64 0] [(0, 1, (.c (st [117, 110, 119, 114, 97, 112]))), (1, 1, (.c (bo true))), (5, 1, (.c (bo true))), (6, 1, (.c (i64 1))), (7, 1, (.c (i64 200)))]⟩,
      ⟨(some 9), none, .build [st [], bo false, bo false, bo false, bo false, bo false, i64 0, i64 0] [(0, 1, (.c (st [114, 97, 119, 45, 119, 114, 97, 112]))), (1, 1, (.c (bo true))), (2, 1, (.c (bo true)))]⟩,
      ⟨(some 10), none, .build [st [], bo false, bo false, bo false, bo false, bo false, i64 0, i64 0] [(0, 1, (.c (st [114, 97, 119, 45, 117, 110, 119, 114, 97, 112]))), (1, 1, (.c (bo true))), (3, 1, (.c (bo true))), (5, 1, (.c (bo true))), (6, 1, (.c (i64 60))), (7, 1, (.c (i64 60)))]⟩,
      ⟨(some 11), none, .build [st [], bo false, bo false, bo false, bo false, bo false, i64 0, i64 0] [(0, 1, (.c (st [100, 101, 114, 105, 118, 101]))), (1, 1, (.c (bo true))), (3, 1, (.c (bo true)))]⟩,
      ⟨(some 12), none, .build [st [], bo false, bo false, bo false, bo false, bo false, i64 0, i64 0] [(0, 1, (.c (st [100, 101, 115, 116, 114, 111, 121]))), (1, 1, (.c (bo true)))]⟩,
      ⟨(some 13), none, .build [st [], bo false, bo false, bo false, bo false, bo false, i64 0, i64 0] [(0, 1, (.c (st [114, 111, 116, 97, 116, 101]))), (1, 1, (.c (bo true)))]⟩,
      ⟨(some 14), none, .build [st [], bo false, bo false, bo false, bo false, bo false, i64 0, i64 0] [(0, 1, (.c (st [98, 97, 99, 107, 117, 112])))]⟩,
      ⟨(some 15), none, .build [st [], bo false, bo false, bo false, bo false, bo false, i64 0, i64 0] [(0, 1, (.c (st [114, 101, 115, 116, 111, 114, 101]))), (5, 1, (.c (bo true))), (6, 1, (.c (i64 1))), (7, 1, (.c (i64 1048576)))]⟩,
      ⟨(some 16), none, .build [st [], bo false, bo false, bo false, bo false, bo false, i64 0, i64 0] [(0, 1, (.c (st [114, 101, 110, 101, 119])))]⟩,
      ⟨(some 17), none, .build [st [], bo false, bo false, bo false, bo false, bo false, i64 0, i64 0] [(0, 1, (.c (st [114, 101, 112, 108, 97, 99, 101]))), (5, 1, (.c (bo true))), (6, 1, (.c (i64 1))), (7, 1, (.c (i64 2000)))]⟩,
      ⟨(some 18), none, .build [st [], bo false, bo false, bo false, bo false, bo false, i64 0, i64 0] [(0, 1, (.c (st [115, 112, 108, 105, 116]))), (4, 1, (.c (bo true)))]⟩,
      ⟨(some 19), none, .build [st [], bo false, bo false, bo false, bo false, bo false, i64 0, i64 0] [(0, 1, (.c (st [109, 101, 114, 103, 101]))), (5, 1, (.c (bo true))), (6, 1, (.c (i64 1))), (7, 1, (.c (i64 1048576)))]⟩,
      ⟨(some 20), none, .build [st [], bo false, bo false, bo false, bo false, bo false, i64 0, i64 0] [(0, 1, (.c (st [117, 110, 108, 111, 99, 107])))]⟩,
      ⟨(some 21), none, .build [st [], bo false, bo false, bo false, bo false, bo false, i64 0, i64 0] [(0, 1, (.c (st [114, 101, 107, 101, 121])))]⟩,
      ⟨(some 22), none, .build [st [], bo false, bo false, bo false, bo false, bo false, i64 0, i64 0] [(0, 1, (.c (st [100, 101, 99, 111, 109, 109, 105, 115, 115, 105, 111, 110])))]⟩,
      ⟨(some 23), none, .build [st [], bo false, bo false, bo false, bo false, bo false, i64 0, i64 0] [(0, 1, (.c (st [112, 114, 111, 112, 111, 115, 101]))), (2, 1, (.c (bo true))), (5, 1, (.c (bo true))), (6, 1, (.c (i64 16))), (7, 1, (.c (i64 16)))]⟩,
      ⟨(some 24), none, .build [st [], bo false, bo false, bo false, bo false, bo false, i64 0, i64 0] [(0, 1, (.c (st [97, 112, 112, 114, 111, 118, 101]))), (1, 1, (.c (bo true))), (2, 1, (.c (bo true))), (5, 1, (.c (bo true))), (6, 1, (.c (i64 1))), (7, 1, (.c (i64 2000)))]⟩,
      ⟨(some 25), none, .build [st [], bo false, bo false, bo false, bo false, bo false, i64 0, i64 0] [(0, 1, (.c (st [119, 105, 116, 104, 100, 114, 97, 119]))), (1, 1, (.c (bo true))), (2, 1, (.c (bo true))), (5, 1, (.c (bo true))), (6, 1, (.c (i64 1))), (7, 1, (.c (i64 2000)))]⟩,
      ⟨(some 26), none, .build [st [], bo false, bo false, bo false, bo false, bo false, i64 0, i64 0] [(0, 1, (.c (st [104, 101, 97, 100])))]⟩,
      ⟨(some 27), none, .build [st [], bo false, bo false, bo false, bo false, bo false, i64 0, i64 0] [(0, 1, (.c (st [112, 105, 101, 99, 101]))), (1, 1, (.c (bo true))), (2, 1, (.c (bo true)))]⟩,
      ⟨(some 28), none, .buildSl 8 27 [st [], bo false, bo false, bo false, bo false, bo false, i64 0, i64 0, st [], bo false, bo false, bo false, bo false, bo false, i64 0, i64 0, st [], bo false, bo false, bo false, bo false, bo false, i64 0, i64 0, st [], bo false, bo false, bo false, bo false, bo false, i64 0, i64 0, st [], bo false, bo false, bo false, bo false, bo false, i64 0, i64 0, st [], bo false, bo false, bo false, bo false, bo false, i64 0, i64 0, st [], bo false, bo false, bo false, bo false, bo false, i64 0, i64 0, st [], bo false, bo false, bo false, bo false, bo false, i64 0, i64 0, st [], bo false, bo false, bo false, bo false, bo false, i64 0, i64 0, st [], bo false, bo false, bo false, bo false, bo false, i64 0, i64 0, st [], bo false, bo false, bo false, bo false, bo false, i64 0, i64 0, st [], bo false, bo false, bo false, bo false, bo false, i64 0, i64 0, st [], bo false, bo false, bo false, bo false, bo false, i64 0, i64 0, st [], bo false, bo false, bo false, bo false, bo false, i64 0, i64 0, st [], bo false, bo false, bo false, bo false, bo false, i64 0, i64 0, st [], bo false, bo false, bo false, bo false, bo false, i64 0, i64 0, st [], bo false, bo false, bo false, bo false, bo false, i64 0, i64 0, st [], bo false, bo false, bo false, bo false, bo false, i64 0, i64 0, st [], bo false, bo false, bo false, bo false, bo false, i64 0, i64 0, st [], bo false, bo false, bo false, bo false, bo false, i64 0, i64 0, st [], bo false, bo false, bo false, bo false, bo false, i64 0, i64 0, st [], bo false, bo false, bo false, bo false, bo false, i64 0, i64 0, st [], bo false, bo false, bo false, bo false, bo false, i64 0, i64 0, st [], bo false, bo false, bo false, bo false, bo false, i64 0, i64 0, st [], bo false, bo false, bo false, bo false, bo false, i64 0, i64 0, st [], bo false, bo false, bo false, bo false, bo false, i64 0, i64 0, st [], bo false, bo false, bo false, bo false, bo false, i64 0, i64 0] [(0, 8, (.s 1)), (8, 8, (.s 2)), (16, 8, (.s 3)), (24, 8, (.s 4)), (32, 8, (.s 5)), (40, 8, (.s 6)), (48, 8, (.s 7)), (56, 8, (.s 8)), (64, 8, (.s 9)), (72, 8, (.s 10)), (80, 8, (.s 11)), (88, 8, (.s 12)), (96, 8, (.s 13)), (104, 8, (.s 14)), (112, 8, (.s 15)), (120, 8, (.s 16)), (128, 8, (.s 17)), (136, 8, (.s 18)), (144, 8, (.s 19)), (152, 8, (.s 20)), (160, 8, (.s 21)), (168, 8, (.s 22)), (176, 8, (.s 23)), (184, 8, (.s 24)), (192, 8, (.s 25)), (200, 8, (.s 26)), (208, 8, (.s 27))]⟩,
      ⟨(some 0), none, .mv true (.s 28)⟩]) (
  .ret)
def f_custodyref28_rows : AFun :=
 { n := 0, wr := [], res := [.t 0], body :=
    .seq (
      .region [] [] [
        ⟨(some 0), none, .mv true (.c (.sl (.own 8) none 0 []))⟩]) (
    f_custodyref28_rows_r0) }

/-- custody custodyref28.within = 144; calls  -/
def f_custodyref28_within_r1 : ACode :=
  .cond (.s 8) (
    .seq (
      .region [6] [] [
        ⟨(some 9), none, .mv false (.s 0)⟩,
        ⟨(some 10), none, .bin .eql (.s 9) (.c (i64 0))⟩,
        ⟨(some 6), none, .mv false (.s 10)⟩]) (
    .ret)) (
    .ghost (.keep []) .skip)
def f_custodyref28_within_r2 : ACode :=
  .seq (
    .region [6] [] [
      ⟨(some 11), none, .mv false (.s 0)⟩,
      ⟨(some 12), none, .bin .geq (.s 11) (.c (i64 0))⟩,
      ⟨(some 13), none, .mv false (.s 12)⟩,
      ⟨(some 14), (some (13, true)), .mv false (.s 0)⟩,
      ⟨(some 15), (some (13, true)), .mv false (.s 2)⟩,
      ⟨(some 16), (some (13, true)), .bin .leq (.s 14) (.s 15)⟩,
      ⟨(some 17), none, .pick (.s 13) (.s 16) (.c (bo false))⟩,
      ⟨(some 6), none, .mv false (.s 17)⟩]) (
  .ret)
def f_custodyref28_within_r0 : ACode :=
  .seq (
    .seq (
      .region [8] [] [
        ⟨(some 7), none, .mv false (.s 1)⟩,
        ⟨(some 8), none, .un .not (.s 7)⟩]) (
    f_custodyref28_within_r1)) (
  f_custodyref28_within_r2)
def f_custodyref28_within : AFun :=
 { n := 3, wr := [], res := [.t 6], body :=
    .seq (
      .region [] [] [
        ⟨(some 6), none, .mv false (.c (bo false))⟩]) (
    f_custodyref28_within_r0) }

/-- custody custodyref28.isList = 145; calls  -/
def f_custodyref28_isList_r1 : ACode :=
  .cond (.s 12) (
    .seq (
      .region [4] [] [
        ⟨(some 13), none, .mv false (.s 1)⟩,
        ⟨(some 14), none, .un .not (.s 13)⟩,
        ⟨(some 15), none, .mv false (.s 14)⟩,
        ⟨(some 16), (some (15, true)), .mv false (.s 0)⟩,
        ⟨(some 17), (some (15, true)), .len false (.s 16)⟩,
        ⟨(some 18), (some (15, true)), .bin .eql (.s 17) (.c (i64 0))⟩,
        ⟨(some 19), none, .pick (.s 15) (.s 18) (.c (bo false))⟩,
        ⟨(some 4), none, .mv false (.s 19)⟩]) (
    .ret)) (
    .ghost (.keep []) .skip)
def f_custodyref28_isList_r4 : ACode :=
  .cond (.s 23) (
    .ghost (.keep [5]) .skip) (
    .ghost (.keep []) (.exit 0))
def f_custodyref28_isList_r6 : ACode :=
  .cond (.s 53) (
    .seq (
      .region [4] [] [
        ⟨(some 4), none, .mv false (.c (bo false))⟩]) (
    .ret)) (
    .ghost (.keep [5]) .skip)
def f_custodyref28_isList_r5 : ACode :=
  .seq (
    .block 1 (
      .seq (
        .region [5, 53] [] [
          ⟨(some 26), none, .mv false (.s 0)⟩,
          ⟨(some 27), none, .mv false (.s 5)⟩,
          ⟨(some 28), none, .idxSl 1 (.s 26) (.s 27)⟩,
          ⟨(some 29), none, .load none none false (.s 28)⟩,
          ⟨(some 30), none, .bin .lss (.s 29) (.c (i64 1))⟩,
          ⟨(some 31), none, .mv false (.s 30)⟩,
          ⟨(some 32), (some (31, false)), .mv false (.s 0)⟩,
          ⟨(some 33), (some (31, false)), .mv false (.s 5)⟩,
          ⟨(some 34), (some (31, false)), .idxSl 1 (.s 32) (.s 33)⟩,
          ⟨(some 35), (some (31, false)), .load none none false (.s 34)⟩,
          ⟨(some 36), (some (31, false)), .bin .gtr (.s 35) (.c (i64 4096))⟩,
          ⟨(some 37), none, .pick (.s 31) (.c (bo true)) (.s 36)⟩,
          ⟨(some 38), none, .mv false (.s 37)⟩,
          ⟨(some 39), (some (38, false)), .mv false (.s 5)⟩,
          ⟨(some 40), (some (38, false)), .bin .gtr (.s 39) (.c (i64 0))⟩,
          ⟨(some 41), (some (38, false)), .mv false (.s 40)⟩,
          ⟨(some 42), (some (41, true)), .mv false (.s 0)⟩,
          ⟨(some 43), (some (41, true)), .mv false (.s 5)⟩,
          ⟨(some 44), (some (41, true)), .idxSl 1 (.s 42) (.s 43)⟩,
          ⟨(some 45), (some (41, true)), .load none none false (.s 44)⟩,
          ⟨(some 46), (some (41, true)), .mv false (.s 0)⟩,
          ⟨(some 47), (some (41, true)), .mv false (.s 5)⟩,
          ⟨(some 48), (some (41, true)), .bin .sub (.s 47) (.c (i64 1))⟩,
          ⟨(some 49), (some (41, true)), .idxSl 1 (.s 46) (.s 48)⟩,
          ⟨(some 50), (some (41, true)), .load none none false (.s 49)⟩,
          ⟨(some 51), (some (41, true)), .bin .leq (.s 45) (.s 50)⟩,
          ⟨(some 52), (some (38, false)), .pick (.s 41) (.s 51) (.c (bo false))⟩,
          ⟨(some 53), none, .pick (.s 38) (.c (bo true)) (.s 52)⟩]) (
      f_custodyref28_isList_r6))) (
  .region [5] [] [
    ⟨(some 24), none, .mv false (.s 5)⟩,
    ⟨(some 25), none, .bin .add (.s 24) (.c (i64 1))⟩,
    ⟨(some 5), none, .mv false (.s 25)⟩])
def f_custodyref28_isList_l0 : ACode :=
  .seq (
    .seq (
      .region [5, 23] [] [
        ⟨(some 20), none, .mv false (.s 5)⟩,
        ⟨(some 21), none, .mv false (.s 0)⟩,
        ⟨(some 22), none, .len false (.s 21)⟩,
        ⟨(some 23), none, .bin .lss (.s 20) (.s 22)⟩]) (
    f_custodyref28_isList_r4)) (
  f_custodyref28_isList_r5)
def f_custodyref28_isList_r3 : ACode :=
  .block 0 (
    .loop f_custodyref28_isList_l0)
def f_custodyref28_isList_r7 : ACode :=
  .seq (
    .region [4] [] [
      ⟨(some 4), none, .mv false (.c (bo true))⟩]) (
  .ret)
def f_custodyref28_isList_r2 : ACode :=
  .seq (
    .seq (
      .region [5] [] [
        ⟨(some 5), none, .mv false (.c (i64 0))⟩]) (
    f_custodyref28_isList_r3)) (
  f_custodyref28_isList_r7)
def f_custodyref28_isList_r0 : ACode :=
  .seq (
    .seq (
      .region [12] [] [
        ⟨(some 6), none, .mv false (.s 1)⟩,
        ⟨(some 7), none, .un .not (.s 6)⟩,
        ⟨(some 8), none, .mv false (.s 7)⟩,
        ⟨(some 9), (some (8, false)), .mv false (.s 0)⟩,
        ⟨(some 10), (some (8, false)), .len false (.s 9)⟩,
        ⟨(some 11), (some (8, false)), .bin .eql (.s 10) (.c (i64 0))⟩,
        ⟨(some 12), none, .pick (.s 8) (.c (bo true)) (.s 11)⟩]) (
    f_custodyref28_isList_r1)) (
  f_custodyref28_isList_r2)
def f_custodyref28_isList : AFun :=
 { n := 2, wr := [], res := [.t 4], body :=
    .seq (
      .region [] [] [
        ⟨(some 4), none, .mv false (.c (bo false))⟩]) (
    f_custodyref28_isList_r0) }

end Go.Abs
end

section
namespace Go.Abs
set_option maxRecDepth 100000
/-- custody custodylaw28.CommandMatchesSpec = 153; calls command.Check = 128, command.Digest = 131, command.Encode = 130, command.Kind = 123, command.Name = 125, command.Same = 133, custodylaw28.few = 151, custodylaw28.sanity = 152, custodyref01.Same = 38, custodyref28.Check = 146, custodyref28.Digest = 148, custodyref28.Encode = 147, custodyref28.Kind = 142, custodyref28.Name = 143, custodyref28.Same = 149 -/
def f_custodylaw28_CommandMatchesSpec_r1 : ACode :=
  .cond (.s 25) (
    .seq (
      .region [8] [] [
        ⟨(some 26), none, .call 152 [] []⟩,
        ⟨(some 8), none, .mv false (.s 26)⟩]) (
    .ret)) (
    .ghost (.keep [4, 5]) .skip)
def f_custodylaw28_CommandMatchesSpec_r4 : ACode :=
  .seq (
    .region [8] [.norm [4, 5]] [
      ⟨(some 37), none, .call 152 [] []⟩,
      ⟨(some 38), none, .mv false (.s 37)⟩,
      ⟨(some 39), (some (38, true)), .mv false (.s 2)⟩,
      ⟨(some 40), (some (38, true)), .call 125 [(.s 39)] []⟩,
      ⟨(some 41), (some (38, true)), .mv false (.s 2)⟩,
      ⟨(some 42), (some (38, true)), .call 143 [(.s 41)] []⟩,
      ⟨(some 43), (some (38, true)), .bin .eql (.s 40) (.s 42)⟩,
      ⟨(some 44), none, .pick (.s 38) (.s 43) (.c (bo false))⟩,
      ⟨(some 45), none, .mv false (.s 44)⟩,
      ⟨(some 46), (some (45, true)), .mv false (.s 9)⟩,
      ⟨(some 47), (some (45, true)), .mv false (.s 11)⟩,
      ⟨(some 48), (some (45, true)), .bin .eql (.s 46) (.s 47)⟩,
      ⟨(some 49), none, .pick (.s 45) (.s 48) (.c (bo false))⟩,
      ⟨(some 50), none, .mv false (.s 49)⟩,
      ⟨(some 51), (some (50, true)), .mv false (.s 10)⟩,
      ⟨(some 52), (some (50, true)), .mv false (.s 12)⟩,
      ⟨(some 53), (some (50, true)), .eqb false (.s 51) (.s 52)⟩,
      ⟨(some 54), none, .pick (.s 50) (.s 53) (.c (bo false))⟩,
      ⟨(some 55), none, .mv false (.s 54)⟩,
      ⟨(some 56), (some (55, true)), .load (some 8) (some 4) false (.s 4)⟩,
      ⟨(some 57), (some (55, true)), .call 128 [(.s 56)] []⟩,
      ⟨(some 58), (some (55, true)), .load (some 8) (some 4) false (.s 4)⟩,
      ⟨(some 59), (some (55, true)), .call 146 [(.s 58)] []⟩,
      ⟨(some 60), (some (55, true)), .bin .eql (.s 57) (.s 59)⟩,
      ⟨(some 61), none, .pick (.s 55) (.s 60) (.c (bo false))⟩,
      ⟨(some 62), none, .mv false (.s 61)⟩,
      ⟨(some 63), (some (62, true)), .load (some 8) (some 4) false (.s 4)⟩,
      ⟨(some 64), (some (62, true)), .call 130 [(.s 63)] []⟩,
      ⟨(some 65), (some (62, true)), .load (some 8) (some 4) false (.s 4)⟩,
      ⟨(some 66), (some (62, true)), .call 147 [(.s 65)] []⟩,
      ⟨(some 67), (some (62, true)), .call 38 [(.s 64), (.s 66)] []⟩,
      ⟨(some 68), none, .pick (.s 62) (.s 67) (.c (bo false))⟩,
      ⟨(some 69), none, .mv false (.s 68)⟩,
      ⟨(some 70), (some (69, true)), .load (some 8) (some 4) false (.s 4)⟩,
      ⟨(some 71), (some (69, true)), .call 131 [(.s 70)] []⟩,
      ⟨(some 72), (some (69, true)), .load (some 8) (some 4) false (.s 4)⟩,
      ⟨(some 73), (some (69, true)), .call 148 [(.s 72)] []⟩,
      ⟨(some 74), (some (69, true)), .eqF (ks8 16) false (.s 71) (.s 73)⟩,
      ⟨(some 75), none, .pick (.s 69) (.s 74) (.c (bo false))⟩,
      ⟨(some 76), none, .mv false (.s 75)⟩,
      ⟨(some 77), (some (76, true)), .load (some 8) (some 4) false (.s 4)⟩,
      ⟨(some 78), (some (76, true)), .load (some 8) (some 5) false (.s 5)⟩,
      ⟨(some 79), (some (76, true)), .call 133 [(.s 77), (.s 78)] []⟩,
      ⟨(some 80), (some (76, true)), .load (some 8) (some 4) false (.s 4)⟩,
      ⟨(some 81), (some (76, true)), .load (some 8) (some 5) false (.s 5)⟩,
      ⟨(some 82), (some (76, true)), .call 149 [(.s 80), (.s 81)] []⟩,
      ⟨(some 83), (some (76, true)), .eqb false (.s 79) (.s 82)⟩,
      ⟨(some 84), none, .pick (.s 76) (.s 83) (.c (bo false))⟩,
      ⟨(some 8), none, .mv false (.s 84)⟩]) (
  .ret)
def f_custodylaw28_CommandMatchesSpec_r3 : ACode :=
  .seq (
    .region [4, 5, 9, 10, 11, 12] [] [
      ⟨(some 33), none, .mv false (.s 3)⟩,
      ⟨(some 34), none, .call 142 [(.s 33)] []⟩,
      ⟨(some 32), none, .mv false (.s 34)⟩,
      ⟨(some 35), none, .extract 0 (.s 32)⟩,
      ⟨(some 36), none, .extract 1 (.s 32)⟩,
      ⟨(some 11), none, .mv false (.s 35)⟩,
      ⟨(some 12), none, .mv false (.s 36)⟩]) (
  f_custodylaw28_CommandMatchesSpec_r4)
def f_custodylaw28_CommandMatchesSpec_r2 : ACode :=
  .seq (
    .region [4, 5, 9, 10] [] [
      ⟨(some 28), none, .mv false (.s 3)⟩,
      ⟨(some 29), none, .call 123 [(.s 28)] []⟩,
      ⟨(some 27), none, .mv false (.s 29)⟩,
      ⟨(some 30), none, .extract 0 (.s 27)⟩,
      ⟨(some 31), none, .extract 1 (.s 27)⟩,
      ⟨(some 9), none, .mv false (.s 30)⟩,
      ⟨(some 10), none, .mv false (.s 31)⟩]) (
  f_custodylaw28_CommandMatchesSpec_r3)
def f_custodylaw28_CommandMatchesSpec_r0 : ACode :=
  .seq (
    .seq (
      .region [4, 5, 25] [.norm [4, 5]] [
        ⟨(some 13), none, .load (some 8) (some 4) false (.s 4)⟩,
        ⟨(some 14), none, .call 151 [(.s 13)] []⟩,
        ⟨(some 15), none, .un .not (.s 14)⟩,
        ⟨(some 16), none, .mv false (.s 15)⟩,
        ⟨(some 17), (some (16, false)), .load (some 8) (some 5) false (.s 5)⟩,
        ⟨(some 18), (some (16, false)), .call 151 [(.s 17)] []⟩,
        ⟨(some 19), (some (16, false)), .un .not (.s 18)⟩,
        ⟨(some 20), none, .pick (.s 16) (.c (bo true)) (.s 19)⟩,
        ⟨(some 21), none, .mv false (.s 20)⟩,
        ⟨(some 22), (some (21, false)), .mv false (.s 3)⟩,
        ⟨(some 23), (some (21, false)), .len true (.s 22)⟩,
        ⟨(some 24), (some (21, false)), .bin .gtr (.s 23) (.c (i64 100))⟩,
        ⟨(some 25), none, .pick (.s 21) (.c (bo true)) (.s 24)⟩]) (
    f_custodylaw28_CommandMatchesSpec_r1)) (
  f_custodylaw28_CommandMatchesSpec_r2)
def f_custodylaw28_CommandMatchesSpec : AFun :=
 { n := 4, wr := [], res := [.t 8], body :=
    .seq (
      .region [4, 5] [.norm [4, 5]] [
        ⟨(some 4), none, .box 4 (some 8) false (.s 0)⟩,
        ⟨(some 5), none, .box 5 (some 8) false (.s 1)⟩,
        ⟨(some 8), none, .mv false (.c (bo false))⟩]) (
    f_custodylaw28_CommandMatchesSpec_r0) }

/-- custody custodylaw28.CommandDecodesAsSpecified = 154; calls command.Decode = 138, custodylaw28.sanity = 152, custodyref28.Decode = 150, custodyref28.Same = 149 -/
def f_custodylaw28_CommandDecodesAsSpecified_r1 : ACode :=
  .cond (.s 9) (
    .seq (
      .region [2] [] [
        ⟨(some 10), none, .call 152 [] []⟩,
        ⟨(some 2), none, .mv false (.s 10)⟩]) (
    .ret)) (
    .ghost (.keep []) .skip)
def f_custodylaw28_CommandDecodesAsSpecified_r4 : ACode :=
  .seq (
    .region [2] [.norm [3, 5]] [
      ⟨(some 21), none, .call 152 [] []⟩,
      ⟨(some 22), none, .mv false (.s 21)⟩,
      ⟨(some 23), (some (22, true)), .load (some 8) (some 3) false (.s 3)⟩,
      ⟨(some 24), (some (22, true)), .load (some 8) (some 5) false (.s 5)⟩,
      ⟨(some 25), (some (22, true)), .call 149 [(.s 23), (.s 24)] []⟩,
      ⟨(some 26), none, .pick (.s 22) (.s 25) (.c (bo false))⟩,
      ⟨(some 27), none, .mv false (.s 26)⟩,
      ⟨(some 28), (some (27, true)), .mv false (.s 4)⟩,
      ⟨(some 29), (some (27, true)), .mv false (.s 6)⟩,
      ⟨(some 30), (some (27, true)), .bin .eql (.s 28) (.s 29)⟩,
      ⟨(some 31), none, .pick (.s 27) (.s 30) (.c (bo false))⟩,
      ⟨(some 2), none, .mv false (.s 31)⟩]) (
  .ret)
def f_custodylaw28_CommandDecodesAsSpecified_r3 : ACode :=
  .seq (
    .region [3, 4, 5, 6] [.norm [3, 5]] [
      ⟨(some 17), none, .mv false (.s 0)⟩,
      ⟨(some 18), none, .call 150 [(.s 17)] []⟩,
      ⟨(some 16), none, .mv false (.s 18)⟩,
      ⟨(some 19), none, .extract 0 (.s 16)⟩,
      ⟨(some 20), none, .extract 1 (.s 16)⟩,
      ⟨(some 5), none, .alloc 5 (List.replicate 6 (i64 0) ++ [st []] ++ [.sl .plain none 0 []])⟩,
      ⟨none, none, .store (some 8) 5 false (.s 5) (.s 19)⟩,
      ⟨(some 6), none, .mv false (.s 20)⟩]) (
  f_custodylaw28_CommandDecodesAsSpecified_r4)
def f_custodylaw28_CommandDecodesAsSpecified_r2 : ACode :=
  .seq (
    .region [3, 4] [.norm [3]] [
      ⟨(some 12), none, .mv false (.s 0)⟩,
      ⟨(some 13), none, .call 138 [(.s 12)] []⟩,
      ⟨(some 11), none, .mv false (.s 13)⟩,
      ⟨(some 14), none, .extract 0 (.s 11)⟩,
      ⟨(some 15), none, .extract 1 (.s 11)⟩,
      ⟨(some 3), none, .alloc 3 (List.replicate 6 (i64 0) ++ [st []] ++ [.sl .plain none 0 []])⟩,
      ⟨none, none, .store (some 8) 3 false (.s 3) (.s 14)⟩,
      ⟨(some 4), none, .mv false (.s 15)⟩]) (
  f_custodylaw28_CommandDecodesAsSpecified_r3)
def f_custodylaw28_CommandDecodesAsSpecified_r0 : ACode :=
  .seq (
    .seq (
      .region [9] [] [
        ⟨(some 7), none, .mv false (.s 0)⟩,
        ⟨(some 8), none, .len false (.s 7)⟩,
        ⟨(some 9), none, .bin .gtr (.s 8) (.c (i64 4000))⟩]) (
    f_custodylaw28_CommandDecodesAsSpecified_r1)) (
  f_custodylaw28_CommandDecodesAsSpecified_r2)
def f_custodylaw28_CommandDecodesAsSpecified : AFun :=
 { n := 1, wr := [], res := [.t 2], body :=
    .seq (
      .region [] [] [
        ⟨(some 2), none, .mv false (.c (bo false))⟩]) (
    f_custodylaw28_CommandDecodesAsSpecified_r0) }

/-- custody custodylaw28.CommandRoundTrip = 155; calls command.Check = 128, command.Decode = 138, command.Digest = 131, command.Encode = 130, command.Same = 133, custodylaw28.few = 151, custodylaw28.sanity = 152, custodyref28.Same = 149 -/
def f_custodylaw28_CommandRoundTrip_r1 : ACode :=
  .cond (.s 8) (
    .seq (
      .region [2] [] [
        ⟨(some 9), none, .call 152 [] []⟩,
        ⟨(some 2), none, .mv false (.s 9)⟩]) (
    .ret)) (
    .ghost (.keep [1]) .skip)
def f_custodylaw28_CommandRoundTrip_r4 : ACode :=
  .seq (
    .region [2] [.norm [1, 3]] [
      ⟨(some 18), none, .call 152 [] []⟩,
      ⟨(some 19), none, .mv false (.s 18)⟩,
      ⟨(some 20), (some (19, true)), .mv false (.s 4)⟩,
      ⟨(some 21), (some (19, true)), .mv false (.s 5)⟩,
      ⟨(some 22), (some (19, true)), .bin .eql (.s 20) (.s 21)⟩,
      ⟨(some 23), none, .pick (.s 19) (.s 22) (.c (bo false))⟩,
      ⟨(some 24), none, .mv false (.s 23)⟩,
      ⟨(some 25), (some (24, true)), .mv false (.s 4)⟩,
      ⟨(some 26), (some (24, true)), .bin .eql (.s 25) (.c (i64 0))⟩,
      ⟨(some 27), (some (24, true)), .mv false (.s 26)⟩,
      ⟨(some 28), (some (27, true)), .load (some 8) (some 1) false (.s 1)⟩,
      ⟨(some 29), (some (27, true)), .load (some 8) (some 3) false (.s 3)⟩,
      ⟨(some 30), (some (27, true)), .call 133 [(.s 28), (.s 29)] []⟩,
      ⟨(some 31), (some (24, true)), .pick (.s 27) (.s 30) (.c (bo false))⟩,
      ⟨(some 32), (some (24, true)), .mv false (.s 31)⟩,
      ⟨(some 33), (some (32, true)), .load (some 8) (some 1) false (.s 1)⟩,
      ⟨(some 34), (some (32, true)), .call 131 [(.s 33)] []⟩,
      ⟨(some 35), (some (32, true)), .load (some 8) (some 3) false (.s 3)⟩,
      ⟨(some 36), (some (32, true)), .call 131 [(.s 35)] []⟩,
      ⟨(some 37), (some (32, true)), .eqF (ks8 16) false (.s 34) (.s 36)⟩,
      ⟨(some 38), (some (24, true)), .pick (.s 32) (.s 37) (.c (bo false))⟩,
      ⟨(some 39), (some (24, true)), .mv false (.s 38)⟩,
      ⟨(some 40), (some (39, false)), .mv false (.s 4)⟩,
      ⟨(some 41), (some (39, false)), .bin .neq (.s 40) (.c (i64 0))⟩,
      ⟨(some 42), (some (39, false)), .mv false (.s 41)⟩,
      ⟨(some 43), (some (42, true)), .load (some 8) (some 3) false (.s 3)⟩,
      ⟨(some 44), (some (42, true)), .build [i64 0, i64 0, i64 0, i64 0, i64 0, i64 0, st [], .sl .plain none 0 []] []⟩,
      ⟨(some 45), (some (42, true)), .call 149 [(.s 43), (.s 44)] []⟩,
      ⟨(some 46), (some (39, false)), .pick (.s 42) (.s 45) (.c (bo false))⟩,
      ⟨(some 47), (some (24, true)), .pick (.s 39) (.c (bo true)) (.s 46)⟩,
      ⟨(some 48), none, .pick (.s 24) (.s 47) (.c (bo false))⟩,
      ⟨(some 2), none, .mv false (.s 48)⟩]) (
  .ret)
def f_custodylaw28_CommandRoundTrip_r3 : ACode :=
  .seq (
    .region [1, 3, 4, 5] [.norm [1, 3]] [
      ⟨(some 16), none, .load (some 8) (some 1) false (.s 1)⟩,
      ⟨(some 17), none, .call 128 [(.s 16)] []⟩,
      ⟨(some 5), none, .mv false (.s 17)⟩]) (
  f_custodylaw28_CommandRoundTrip_r4)
def f_custodylaw28_CommandRoundTrip_r2 : ACode :=
  .seq (
    .region [1, 3, 4] [.norm [1, 3]] [
      ⟨(some 11), none, .load (some 8) (some 1) false (.s 1)⟩,
      ⟨(some 12), none, .call 130 [(.s 11)] []⟩,
      ⟨(some 13), none, .call 138 [(.s 12)] []⟩,
      ⟨(some 10), none, .mv false (.s 13)⟩,
      ⟨(some 14), none, .extract 0 (.s 10)⟩,
      ⟨(some 15), none, .extract 1 (.s 10)⟩,
      ⟨(some 3), none, .alloc 3 (List.replicate 6 (i64 0) ++ [st []] ++ [.sl .plain none 0 []])⟩,
      ⟨none, none, .store (some 8) 3 false (.s 3) (.s 14)⟩,
      ⟨(some 4), none, .mv false (.s 15)⟩]) (
  f_custodylaw28_CommandRoundTrip_r3)
def f_custodylaw28_CommandRoundTrip_r0 : ACode :=
  .seq (
    .seq (
      .region [1, 8] [.norm [1]] [
        ⟨(some 6), none, .load (some 8) (some 1) false (.s 1)⟩,
        ⟨(some 7), none, .call 151 [(.s 6)] []⟩,
        ⟨(some 8), none, .un .not (.s 7)⟩]) (
    f_custodylaw28_CommandRoundTrip_r1)) (
  f_custodylaw28_CommandRoundTrip_r2)
def f_custodylaw28_CommandRoundTrip : AFun :=
 { n := 1, wr := [], res := [.t 2], body :=
    .seq (
      .region [1] [.norm [1]] [
        ⟨(some 1), none, .box 1 (some 8) false (.s 0)⟩,
        ⟨(some 2), none, .mv false (.c (bo false))⟩]) (
    f_custodylaw28_CommandRoundTrip_r0) }

/-- custody custodylaw28.CommandInjective = 156; calls command.Encode = 130, command.Same = 133, custodylaw28.few = 151, custodylaw28.sanity = 152, custodyref01.Same = 38 -/
def f_custodylaw28_CommandInjective_r1 : ACode :=
  .cond (.s 12) (
    .seq (
      .region [4] [] [
        ⟨(some 13), none, .call 152 [] []⟩,
        ⟨(some 4), none, .mv false (.s 13)⟩]) (
    .ret)) (
    .ghost (.keep [2, 3]) .skip)
def f_custodylaw28_CommandInjective_r2 : ACode :=
  .seq (
    .region [4] [.norm [2, 3]] [
      ⟨(some 14), none, .call 152 [] []⟩,
      ⟨(some 15), none, .mv false (.s 14)⟩,
      ⟨(some 16), (some (15, true)), .load (some 8) (some 2) false (.s 2)⟩,
      ⟨(some 17), (some (15, true)), .call 130 [(.s 16)] []⟩,
      ⟨(some 18), (some (15, true)), .load (some 8) (some 3) false (.s 3)⟩,
      ⟨(some 19), (some (15, true)), .call 130 [(.s 18)] []⟩,
      ⟨(some 20), (some (15, true)), .call 38 [(.s 17), (.s 19)] []⟩,
      ⟨(some 21), (some (15, true)), .load (some 8) (some 2) false (.s 2)⟩,
      ⟨(some 22), (some (15, true)), .load (some 8) (some 3) false (.s 3)⟩,
      ⟨(some 23), (some (15, true)), .call 133 [(.s 21), (.s 22)] []⟩,
      ⟨(some 24), (some (15, true)), .eqb false (.s 20) (.s 23)⟩,
      ⟨(some 25), none, .pick (.s 15) (.s 24) (.c (bo false))⟩,
      ⟨(some 4), none, .mv false (.s 25)⟩]) (
  .ret)
def f_custodylaw28_CommandInjective_r0 : ACode :=
  .seq (
    .seq (
      .region [2, 3, 12] [.norm [2, 3]] [
        ⟨(some 5), none, .load (some 8) (some 2) false (.s 2)⟩,
        ⟨(some 6), none, .call 151 [(.s 5)] []⟩,
        ⟨(some 7), none, .un .not (.s 6)⟩,
        ⟨(some 8), none, .mv false (.s 7)⟩,
        ⟨(some 9), (some (8, false)), .load (some 8) (some 3) false (.s 3)⟩,
        ⟨(some 10), (some (8, false)), .call 151 [(.s 9)] []⟩,
        ⟨(some 11), (some (8, false)), .un .not (.s 10)⟩,
        ⟨(some 12), none, .pick (.s 8) (.c (bo true)) (.s 11)⟩]) (
    f_custodylaw28_CommandInjective_r1)) (
  f_custodylaw28_CommandInjective_r2)
def f_custodylaw28_CommandInjective : AFun :=
 { n := 2, wr := [], res := [.t 4], body :=
    .seq (
      .region [2, 3] [.norm [2, 3]] [
        ⟨(some 2), none, .box 2 (some 8) false (.s 0)⟩,
        ⟨(some 3), none, .box 3 (some 8) false (.s 1)⟩,
        ⟨(some 4), none, .mv false (.c (bo false))⟩]) (
    f_custodylaw28_CommandInjective_r0) }

/-- custody custodylaw28.CommandFields = 157; calls command.Check = 128, command.Name = 125, command.Same = 133, custodylaw28.few = 151, custodylaw28.sanity = 152 -/
def f_custodylaw28_CommandFields_r1 : ACode :=
  .cond (.s 10) (
    .seq (
      .region [2] [] [
        ⟨(some 11), none, .call 152 [] []⟩,
        ⟨(some 2), none, .mv false (.s 11)⟩]) (
    .ret)) (
    .ghost (.keep [1]) .skip)
def f_custodylaw28_CommandFields_r8 : ACode :=
  .cond (.s 14) (
    .ghost (.keep [1, 13, 14]) .skip) (
    .region [1, 13, 14] [] [
      ⟨(some 20), none, .bin .eql (.s 13) (.c (i64 26))⟩,
      ⟨(some 14), none, .mv false (.s 20)⟩])
def f_custodylaw28_CommandFields_r7 : ACode :=
  .cond (.s 14) (
    .ghost (.keep [1, 13, 14]) .skip) (
    .seq (
      .region [1, 13, 14] [] [
        ⟨(some 19), none, .bin .eql (.s 13) (.c (i64 22))⟩,
        ⟨(some 14), none, .mv false (.s 19)⟩]) (
    f_custodylaw28_CommandFields_r8))
def f_custodylaw28_CommandFields_r6 : ACode :=
  .cond (.s 14) (
    .ghost (.keep [1, 13, 14]) .skip) (
    .seq (
      .region [1, 13, 14] [] [
        ⟨(some 18), none, .bin .eql (.s 13) (.c (i64 21))⟩,
        ⟨(some 14), none, .mv false (.s 18)⟩]) (
    f_custodylaw28_CommandFields_r7))
def f_custodylaw28_CommandFields_r5 : ACode :=
  .cond (.s 14) (
    .ghost (.keep [1, 13, 14]) .skip) (
    .seq (
      .region [1, 13, 14] [] [
        ⟨(some 17), none, .bin .eql (.s 13) (.c (i64 20))⟩,
        ⟨(some 14), none, .mv false (.s 17)⟩]) (
    f_custodylaw28_CommandFields_r6))
def f_custodylaw28_CommandFields_r4 : ACode :=
  .cond (.s 14) (
    .ghost (.keep [1, 13, 14]) .skip) (
    .seq (
      .region [1, 13, 14] [] [
        ⟨(some 16), none, .bin .eql (.s 13) (.c (i64 16))⟩,
        ⟨(some 14), none, .mv false (.s 16)⟩]) (
    f_custodylaw28_CommandFields_r5))
def f_custodylaw28_CommandFields_r11 : ACode :=
  .cond (.s 29) (
    .ghost (.keep [1, 13, 29]) .skip) (
    .region [1, 13, 29] [] [
      ⟨(some 32), none, .bin .eql (.s 13) (.c (i64 13))⟩,
      ⟨(some 29), none, .mv false (.s 32)⟩])
def f_custodylaw28_CommandFields_r10 : ACode :=
  .cond (.s 29) (
    .ghost (.keep [1, 13, 29]) .skip) (
    .seq (
      .region [1, 13, 29] [] [
        ⟨(some 31), none, .bin .eql (.s 13) (.c (i64 12))⟩,
        ⟨(some 29), none, .mv false (.s 31)⟩]) (
    f_custodylaw28_CommandFields_r11))
def f_custodylaw28_CommandFields_r13 : ACode :=
  .cond (.s 43) (
    .seq (
      .region [2] [.norm [1]] [
        ⟨(some 45), none, .call 152 [] []⟩,
        ⟨(some 46), none, .mv false (.s 45)⟩,
        ⟨(some 47), (some (46, true)), .load (some 8) (some 1) false (.s 1)⟩,
        ⟨(some 48), (some (46, true)), .fieldAddr 0 (.s 1)⟩,
        ⟨(some 49), (some (46, true)), .load none (some 1) false (.s 48)⟩,
        ⟨(some 50), (some (46, true)), .fieldAddr 3 (.s 1)⟩,
        ⟨(some 51), (some (46, true)), .load none (some 1) false (.s 50)⟩,
        ⟨(some 52), (some (46, true)), .fieldAddr 4 (.s 1)⟩,
        ⟨(some 53), (some (46, true)), .load none (some 1) false (.s 52)⟩,
        ⟨(some 54), (some (46, true)), .fieldAddr 5 (.s 1)⟩,
        ⟨(some 55), (some (46, true)), .load none (some 1) false (.s 54)⟩,
        ⟨(some 56), (some (46, true)), .build [i64 0, i64 0, i64 0, i64 0, i64 0, i64 0, st [], .sl .plain none 0 []] [(0, 1, (.s 49)), (3, 1, (.s 51)), (4, 1, (.s 53)), (5, 1, (.s 55))]⟩,
        ⟨(some 57), (some (46, true)), .call 133 [(.s 47), (.s 56)] []⟩,
        ⟨(some 58), none, .pick (.s 46) (.s 57) (.c (bo false))⟩,
        ⟨(some 2), none, .mv false (.s 58)⟩]) (
    .ret)) (
    .ghost (.keep [1]) .skip)
def f_custodylaw28_CommandFields_r12 : ACode :=
  .cond (.s 29) (
    .seq (
      .region [2] [.norm [1]] [
        ⟨(some 33), none, .call 152 [] []⟩,
        ⟨(some 34), none, .mv false (.s 33)⟩,
        ⟨(some 35), (some (34, true)), .load (some 8) (some 1) false (.s 1)⟩,
        ⟨(some 36), (some (34, true)), .fieldAddr 0 (.s 1)⟩,
        ⟨(some 37), (some (34, true)), .load none (some 1) false (.s 36)⟩,
        ⟨(some 38), (some (34, true)), .fieldAddr 1 (.s 1)⟩,
        ⟨(some 39), (some (34, true)), .load none (some 1) false (.s 38)⟩,
        ⟨(some 40), (some (34, true)), .build [i64 0, i64 0, i64 0, i64 0, i64 0, i64 0, st [], .sl .plain none 0 []] [(0, 1, (.s 37)), (1, 1, (.s 39))]⟩,
        ⟨(some 41), (some (34, true)), .call 133 [(.s 35), (.s 40)] []⟩,
        ⟨(some 42), none, .pick (.s 34) (.s 41) (.c (bo false))⟩,
        ⟨(some 2), none, .mv false (.s 42)⟩]) (
    .ret)) (
    .seq (
      .region [1, 43] [] [
        ⟨(some 44), none, .bin .eql (.s 13) (.c (i64 1))⟩,
        ⟨(some 43), none, .mv false (.s 44)⟩]) (
    f_custodylaw28_CommandFields_r13))
def f_custodylaw28_CommandFields_r9 : ACode :=
  .cond (.s 14) (
    .seq (
      .region [2] [.norm [1]] [
        ⟨(some 21), none, .call 152 [] []⟩,
        ⟨(some 22), none, .mv false (.s 21)⟩,
        ⟨(some 23), (some (22, true)), .load (some 8) (some 1) false (.s 1)⟩,
        ⟨(some 24), (some (22, true)), .fieldAddr 0 (.s 1)⟩,
        ⟨(some 25), (some (22, true)), .load none (some 1) false (.s 24)⟩,
        ⟨(some 26), (some (22, true)), .build [i64 0, i64 0, i64 0, i64 0, i64 0, i64 0, st [], .sl .plain none 0 []] [(0, 1, (.s 25))]⟩,
        ⟨(some 27), (some (22, true)), .call 133 [(.s 23), (.s 26)] []⟩,
        ⟨(some 28), none, .pick (.s 22) (.s 27) (.c (bo false))⟩,
        ⟨(some 2), none, .mv false (.s 28)⟩]) (
    .ret)) (
    .seq (
      .seq (
        .region [1, 13, 29] [] [
          ⟨(some 30), none, .bin .eql (.s 13) (.c (i64 3))⟩,
          ⟨(some 29), none, .mv false (.s 30)⟩]) (
      f_custodylaw28_CommandFields_r10)) (
    f_custodylaw28_CommandFields_r12))
def f_custodylaw28_CommandFields_r3 : ACode :=
  .block 0 (
    .seq (
      .seq (
        .region [1, 13, 14] [] [
          ⟨(some 15), none, .bin .eql (.s 13) (.c (i64 14))⟩,
          ⟨(some 14), none, .mv false (.s 15)⟩]) (
      f_custodylaw28_CommandFields_r4)) (
    f_custodylaw28_CommandFields_r9))
def f_custodylaw28_CommandFields_r14 : ACode :=
  .seq (
    .region [2] [.norm [1]] [
      ⟨(some 59), none, .call 152 [] []⟩,
      ⟨(some 60), none, .mv false (.s 59)⟩,
      ⟨(some 61), (some (60, true)), .fieldAddr 0 (.s 1)⟩,
      ⟨(some 62), (some (60, true)), .load none (some 1) false (.s 61)⟩,
      ⟨(some 63), (some (60, true)), .call 125 [(.s 62)] []⟩,
      ⟨(some 64), (some (60, true)), .bin .neq (.s 63) (.c (st []))⟩,
      ⟨(some 65), none, .pick (.s 60) (.s 64) (.c (bo false))⟩,
      ⟨(some 66), none, .mv false (.s 65)⟩,
      ⟨(some 67), (some (66, true)), .fieldAddr 7 (.s 1)⟩,
      ⟨(some 68), (some (66, true)), .load none (some 1) false (.s 67)⟩,
      ⟨(some 69), (some (66, true)), .len false (.s 68)⟩,
      ⟨(some 70), (some (66, true)), .bin .eql (.s 69) (.c (i64 0))⟩,
      ⟨(some 71), (some (66, true)), .fieldAddr 0 (.s 1)⟩,
      ⟨(some 72), (some (66, true)), .load none (some 1) false (.s 71)⟩,
      ⟨(some 73), (some (66, true)), .bin .neq (.s 72) (.c (i64 18))⟩,
      ⟨(some 74), (some (66, true)), .eqb false (.s 70) (.s 73)⟩,
      ⟨(some 75), none, .pick (.s 66) (.s 74) (.c (bo false))⟩,
      ⟨(some 2), none, .mv false (.s 75)⟩]) (
  .ret)
def f_custodylaw28_CommandFields_r2 : ACode :=
  .seq (
    .seq (
      .region [1, 13] [.norm [1]] [
        ⟨(some 12), none, .fieldAddr 0 (.s 1)⟩,
        ⟨(some 13), none, .load none (some 1) false (.s 12)⟩]) (
    f_custodylaw28_CommandFields_r3)) (
  f_custodylaw28_CommandFields_r14)
def f_custodylaw28_CommandFields_r0 : ACode :=
  .seq (
    .seq (
      .region [1, 10] [.norm [1]] [
        ⟨(some 3), none, .load (some 8) (some 1) false (.s 1)⟩,
        ⟨(some 4), none, .call 151 [(.s 3)] []⟩,
        ⟨(some 5), none, .un .not (.s 4)⟩,
        ⟨(some 6), none, .mv false (.s 5)⟩,
        ⟨(some 7), (some (6, false)), .load (some 8) (some 1) false (.s 1)⟩,
        ⟨(some 8), (some (6, false)), .call 128 [(.s 7)] []⟩,
        ⟨(some 9), (some (6, false)), .bin .neq (.s 8) (.c (i64 0))⟩,
        ⟨(some 10), none, .pick (.s 6) (.c (bo true)) (.s 9)⟩]) (
    f_custodylaw28_CommandFields_r1)) (
  f_custodylaw28_CommandFields_r2)
def f_custodylaw28_CommandFields : AFun :=
 { n := 1, wr := [], res := [.t 2], body :=
    .seq (
      .region [1] [.norm [1]] [
        ⟨(some 1), none, .box 1 (some 8) false (.s 0)⟩,
        ⟨(some 2), none, .mv false (.c (bo false))⟩]) (
    f_custodylaw28_CommandFields_r0) }

/-- custody custodylaw28.CommandNames = 158; calls command.Kind = 123, command.Name = 125, custodylaw28.sanity = 152 -/
def f_custodylaw28_CommandNames_r3 : ACode :=
  .cond (.s 18) (
    .seq (
      .region [2] [] [
        ⟨(some 19), none, .call 152 [] []⟩,
        ⟨(some 20), none, .mv false (.s 19)⟩,
        ⟨(some 21), (some (20, true)), .mv false (.s 3)⟩,
        ⟨(some 22), (some (20, true)), .bin .eql (.s 21) (.c (st []))⟩,
        ⟨(some 23), none, .pick (.s 20) (.s 22) (.c (bo false))⟩,
        ⟨(some 24), none, .mv false (.s 23)⟩,
        ⟨(some 25), (some (24, true)), .mv false (.s 5)⟩,
        ⟨(some 26), (some (24, true)), .un .not (.s 25)⟩,
        ⟨(some 27), none, .pick (.s 24) (.s 26) (.c (bo false))⟩,
        ⟨(some 28), none, .mv false (.s 27)⟩,
        ⟨(some 29), (some (28, true)), .mv false (.s 4)⟩,
        ⟨(some 30), (some (28, true)), .bin .eql (.s 29) (.c (i64 0))⟩,
        ⟨(some 31), none, .pick (.s 28) (.s 30) (.c (bo false))⟩,
        ⟨(some 2), none, .mv false (.s 31)⟩]) (
    .ret)) (
    .ghost (.keep [3, 4, 5]) .skip)
def f_custodylaw28_CommandNames_r4 : ACode :=
  .seq (
    .region [2] [] [
      ⟨(some 32), none, .call 152 [] []⟩,
      ⟨(some 33), none, .mv false (.s 32)⟩,
      ⟨(some 34), (some (33, true)), .mv false (.s 3)⟩,
      ⟨(some 35), (some (33, true)), .bin .neq (.s 34) (.c (st []))⟩,
      ⟨(some 36), none, .pick (.s 33) (.s 35) (.c (bo false))⟩,
      ⟨(some 37), none, .mv false (.s 36)⟩,
      ⟨(some 38), (some (37, true)), .mv false (.s 5)⟩,
      ⟨(some 39), none, .pick (.s 37) (.s 38) (.c (bo false))⟩,
      ⟨(some 40), none, .mv false (.s 39)⟩,
      ⟨(some 41), (some (40, true)), .mv false (.s 4)⟩,
      ⟨(some 42), (some (40, true)), .mv false (.s 0)⟩,
      ⟨(some 43), (some (40, true)), .bin .eql (.s 41) (.s 42)⟩,
      ⟨(some 44), none, .pick (.s 40) (.s 43) (.c (bo false))⟩,
      ⟨(some 2), none, .mv false (.s 44)⟩]) (
  .ret)
def f_custodylaw28_CommandNames_r2 : ACode :=
  .seq (
    .seq (
      .region [3, 4, 5, 18] [] [
        ⟨(some 13), none, .mv false (.s 0)⟩,
        ⟨(some 14), none, .bin .lss (.s 13) (.c (i64 1))⟩,
        ⟨(some 15), none, .mv false (.s 14)⟩,
        ⟨(some 16), (some (15, false)), .mv false (.s 0)⟩,
        ⟨(some 17), (some (15, false)), .bin .gtr (.s 16) (.c (i64 27))⟩,
        ⟨(some 18), none, .pick (.s 15) (.c (bo true)) (.s 17)⟩]) (
    f_custodylaw28_CommandNames_r3)) (
  f_custodylaw28_CommandNames_r4)
def f_custodylaw28_CommandNames_r1 : ACode :=
  .seq (
    .region [3, 4, 5] [] [
      ⟨(some 9), none, .mv false (.s 3)⟩,
      ⟨(some 10), none, .call 123 [(.s 9)] []⟩,
      ⟨(some 8), none, .mv false (.s 10)⟩,
      ⟨(some 11), none, .extract 0 (.s 8)⟩,
      ⟨(some 12), none, .extract 1 (.s 8)⟩,
      ⟨(some 4), none, .mv false (.s 11)⟩,
      ⟨(some 5), none, .mv false (.s 12)⟩]) (
  f_custodylaw28_CommandNames_r2)
def f_custodylaw28_CommandNames_r0 : ACode :=
  .seq (
    .region [3] [] [
      ⟨(some 6), none, .mv false (.s 0)⟩,
      ⟨(some 7), none, .call 125 [(.s 6)] []⟩,
      ⟨(some 3), none, .mv false (.s 7)⟩]) (
  f_custodylaw28_CommandNames_r1)
def f_custodylaw28_CommandNames : AFun :=
 { n := 1, wr := [], res := [.t 2], body :=
    .seq (
      .region [] [] [
        ⟨(some 2), none, .mv false (.c (bo false))⟩]) (
    f_custodylaw28_CommandNames_r0) }

/-- custody custodylaw28.few = 151; calls  -/
def f_custodylaw28_few_r0 : ACode :=
  .seq (
    .region [2] [.norm [1]] [
      ⟨(some 3), none, .fieldAddr 6 (.s 1)⟩,
      ⟨(some 4), none, .load none (some 1) false (.s 3)⟩,
      ⟨(some 5), none, .len true (.s 4)⟩,
      ⟨(some 6), none, .bin .leq (.s 5) (.c (i64 3000))⟩,
      ⟨(some 7), none, .mv false (.s 6)⟩,
      ⟨(some 8), (some (7, true)), .fieldAddr 7 (.s 1)⟩,
      ⟨(some 9), (some (7, true)), .load none (some 1) false (.s 8)⟩,
      ⟨(some 10), (some (7, true)), .len false (.s 9)⟩,
      ⟨(some 11), (some (7, true)), .bin .leq (.s 10) (.c (i64 200))⟩,
      ⟨(some 12), none, .pick (.s 7) (.s 11) (.c (bo false))⟩,
      ⟨(some 2), none, .mv false (.s 12)⟩]) (
  .ret)
def f_custodylaw28_few : AFun :=
 { n := 1, wr := [], res := [.t 2], body :=
    .seq (
      .region [1] [.norm [1]] [
        ⟨(some 1), none, .box 1 (some 8) false (.s 0)⟩,
        ⟨(some 2), none, .mv false (.c (bo false))⟩]) (
    f_custodylaw28_few_r0) }

/-- custody custodylaw28.sanity = 152; calls command.Check = 128, command.Decode = 138, command.Digest = 131, command.Encode = 130, command.Kind = 123, command.Name = 125, command.Same = 133, custodyref01.Same = 38, custodyref28.Digest = 148, custodyref28.Same = 149 -/
def f_custodylaw28_sanity_r8 : ACode :=
  .seq (
    .region [0] [.norm [1, 3, 5, 11]] [
      ⟨(some 35), none, .mv true (.s 2)⟩,
      ⟨(some 36), none, .buildSl 1 10 (bys (zeros 10)) [(0, 1, (.c (u8 129))), (1, 1, (.c (u8 12))), (2, 1, (.c (u8 129))), (3, 1, (.c (u8 5))), (4, 1, (.c (u8 128))), (5, 1, (.c (u8 128))), (6, 1, (.c (u8 128))), (7, 1, (.c (u8 128))), (8, 1, (.c (u8 128))), (9, 1, (.c (u8 128)))]⟩,
      ⟨(some 37), none, .call 38 [(.s 35), (.s 36)] []⟩,
      ⟨(some 38), none, .mv false (.s 37)⟩,
      ⟨(some 39), (some (38, true)), .load (some 8) (some 3) false (.s 3)⟩,
      ⟨(some 40), (some (38, true)), .load (some 8) (some 1) false (.s 1)⟩,
      ⟨(some 41), (some (38, true)), .call 149 [(.s 39), (.s 40)] []⟩,
      ⟨(some 42), none, .pick (.s 38) (.s 41) (.c (bo false))⟩,
      ⟨(some 43), none, .mv false (.s 42)⟩,
      ⟨(some 44), (some (43, true)), .mv false (.s 4)⟩,
      ⟨(some 45), (some (43, true)), .bin .eql (.s 44) (.c (i64 0))⟩,
      ⟨(some 46), none, .pick (.s 43) (.s 45) (.c (bo false))⟩,
      ⟨(some 47), none, .mv false (.s 46)⟩,
      ⟨(some 48), (some (47, true)), .mv false (.s 6)⟩,
      ⟨(some 49), (some (47, true)), .bin .eql (.s 48) (.c (i64 5))⟩,
      ⟨(some 50), none, .pick (.s 47) (.s 49) (.c (bo false))⟩,
      ⟨(some 51), none, .mv false (.s 50)⟩,
      ⟨(some 52), (some (51, true)), .mv false (.s 7)⟩,
      ⟨(some 53), (some (51, true)), .bin .eql (.s 52) (.c (i64 19))⟩,
      ⟨(some 54), none, .pick (.s 51) (.s 53) (.c (bo false))⟩,
      ⟨(some 55), none, .mv false (.s 54)⟩,
      ⟨(some 56), (some (55, true)), .mv false (.s 8)⟩,
      ⟨(some 57), none, .pick (.s 55) (.s 56) (.c (bo false))⟩,
      ⟨(some 58), none, .mv false (.s 57)⟩,
      ⟨(some 59), (some (58, true)), .mv false (.s 10)⟩,
      ⟨(some 60), (some (58, true)), .un .not (.s 59)⟩,
      ⟨(some 61), none, .pick (.s 58) (.s 60) (.c (bo false))⟩,
      ⟨(some 62), none, .mv false (.s 61)⟩,
      ⟨(some 63), (some (62, true)), .call 125 [(.c (i64 8))] []⟩,
      ⟨(some 64), (some (62, true)), .bin .eql (.s 63) (.c (st [117, 110, 119, 114, 97, 112]))⟩,
      ⟨(some 65), none, .pick (.s 62) (.s 64) (.c (bo false))⟩,
      ⟨(some 66), none, .mv false (.s 65)⟩,
      ⟨(some 67), (some (66, true)), .call 125 [(.c (i64 28))] []⟩,
      ⟨(some 68), (some (66, true)), .bin .eql (.s 67) (.c (st []))⟩,
      ⟨(some 69), none, .pick (.s 66) (.s 68) (.c (bo false))⟩,
      ⟨(some 70), none, .mv false (.s 69)⟩,
      ⟨(some 71), (some (70, true)), .load (some 8) (some 1) false (.s 1)⟩,
      ⟨(some 72), (some (70, true)), .call 128 [(.s 71)] []⟩,
      ⟨(some 73), (some (70, true)), .bin .eql (.s 72) (.c (i64 0))⟩,
      ⟨(some 74), none, .pick (.s 70) (.s 73) (.c (bo false))⟩,
      ⟨(some 75), none, .mv false (.s 74)⟩,
      ⟨(some 76), (some (75, true)), .load (some 8) (some 11) false (.s 11)⟩,
      ⟨(some 77), (some (75, true)), .call 128 [(.s 76)] []⟩,
      ⟨(some 78), (some (75, true)), .bin .eql (.s 77) (.c (i64 1))⟩,
      ⟨(some 79), none, .pick (.s 75) (.s 78) (.c (bo false))⟩,
      ⟨(some 80), none, .mv false (.s 79)⟩,
      ⟨(some 81), (some (80, true)), .load (some 8) (some 1) false (.s 1)⟩,
      ⟨(some 82), (some (80, true)), .load (some 8) (some 3) false (.s 3)⟩,
      ⟨(some 83), (some (80, true)), .call 133 [(.s 81), (.s 82)] []⟩,
      ⟨(some 84), none, .pick (.s 80) (.s 83) (.c (bo false))⟩,
      ⟨(some 85), none, .mv false (.s 84)⟩,
      ⟨(some 86), (some (85, true)), .load (some 8) (some 1) false (.s 1)⟩,
      ⟨(some 87), (some (85, true)), .load (some 8) (some 11) false (.s 11)⟩,
      ⟨(some 88), (some (85, true)), .call 133 [(.s 86), (.s 87)] []⟩,
      ⟨(some 89), (some (85, true)), .un .not (.s 88)⟩,
      ⟨(some 90), none, .pick (.s 85) (.s 89) (.c (bo false))⟩,
      ⟨(some 91), none, .mv false (.s 90)⟩,
      ⟨(some 92), (some (91, true)), .load (some 8) (some 1) false (.s 1)⟩,
      ⟨(some 93), (some (91, true)), .call 131 [(.s 92)] []⟩,
      ⟨(some 94), (some (91, true)), .load (some 8) (some 1) false (.s 1)⟩,
      ⟨(some 95), (some (91, true)), .call 148 [(.s 94)] []⟩,
      ⟨(some 96), (some (91, true)), .eqF (ks8 16) false (.s 93) (.s 95)⟩,
      ⟨(some 97), none, .pick (.s 91) (.s 96) (.c (bo false))⟩,
      ⟨(some 98), none, .mv false (.s 97)⟩,
      ⟨(some 99), (some (98, true)), .load (some 8) (some 1) false (.s 1)⟩,
      ⟨(some 100), (some (98, true)), .call 131 [(.s 99)] []⟩,
      ⟨(some 101), (some (98, true)), .load (some 8) (some 11) false (.s 11)⟩,
      ⟨(some 102), (some (98, true)), .call 131 [(.s 101)] []⟩,
      ⟨(some 103), (some (98, true)), .eqF (ks8 16) true (.s 100) (.s 102)⟩,
      ⟨(some 104), none, .pick (.s 98) (.s 103) (.c (bo false))⟩,
      ⟨(some 0), none, .mv false (.s 104)⟩]) (
  .ret)
def f_custodylaw28_sanity_r7 : ACode :=
  .seq (
    .region [1, 2, 3, 4, 6, 7, 8, 10, 11] [.norm [1, 3, 5, 11]] [
      ⟨(some 34), none, .fieldAddr 5 (.s 11)⟩,
      ⟨none, none, .store none 11 false (.s 34) (.c (i64 1))⟩]) (
  f_custodylaw28_sanity_r8)
def f_custodylaw28_sanity_r6 : ACode :=
  .seq (
    .region [1, 2, 3, 4, 6, 7, 8, 10, 11] [.norm [1, 3, 5, 11]] [
      ⟨(some 33), none, .load (some 8) (some 1) false (.s 1)⟩,
      ⟨(some 11), none, .alloc 11 (List.replicate 6 (i64 0) ++ [st []] ++ [.sl .plain none 0 []])⟩,
      ⟨none, none, .store (some 8) 11 false (.s 11) (.s 33)⟩]) (
  f_custodylaw28_sanity_r7)
def f_custodylaw28_sanity_r5 : ACode :=
  .seq (
    .region [1, 2, 3, 4, 6, 7, 8, 10] [] [
      ⟨(some 30), none, .call 123 [(.c (st [110, 111, 116, 104, 105, 110, 103]))] []⟩,
      ⟨(some 29), none, .mv false (.s 30)⟩,
      ⟨(some 31), none, .extract 0 (.s 29)⟩,
      ⟨(some 32), none, .extract 1 (.s 29)⟩,
      ⟨(some 9), none, .mv false (.s 31)⟩,
      ⟨(some 10), none, .mv false (.s 32)⟩]) (
  f_custodylaw28_sanity_r6)
def f_custodylaw28_sanity_r4 : ACode :=
  .seq (
    .region [1, 2, 3, 4, 6, 7, 8] [] [
      ⟨(some 26), none, .call 123 [(.c (st [109, 101, 114, 103, 101]))] []⟩,
      ⟨(some 25), none, .mv false (.s 26)⟩,
      ⟨(some 27), none, .extract 0 (.s 25)⟩,
      ⟨(some 28), none, .extract 1 (.s 25)⟩,
      ⟨(some 7), none, .mv false (.s 27)⟩,
      ⟨(some 8), none, .mv false (.s 28)⟩]) (
  f_custodylaw28_sanity_r5)
def f_custodylaw28_sanity_r3 : ACode :=
  .seq (
    .region [1, 2, 3, 4, 6] [.norm [1, 3, 5]] [
      ⟨(some 21), none, .buildSl 1 1 [u8 0] [(0, 1, (.c (u8 129)))]⟩,
      ⟨(some 22), none, .call 138 [(.s 21)] []⟩,
      ⟨(some 20), none, .mv false (.s 22)⟩,
      ⟨(some 23), none, .extract 0 (.s 20)⟩,
      ⟨(some 24), none, .extract 1 (.s 20)⟩,
      ⟨(some 5), none, .alloc 5 (List.replicate 6 (i64 0) ++ [st []] ++ [.sl .plain none 0 []])⟩,
      ⟨none, none, .store (some 8) 5 false (.s 5) (.s 23)⟩,
      ⟨(some 6), none, .mv false (.s 24)⟩]) (
  f_custodylaw28_sanity_r4)
def f_custodylaw28_sanity_r2 : ACode :=
  .seq (
    .region [1, 2, 3, 4] [.norm [1, 3]] [
      ⟨(some 16), none, .mv false (.s 2)⟩,
      ⟨(some 17), none, .call 138 [(.s 16)] []⟩,
      ⟨(some 15), none, .mv false (.s 17)⟩,
      ⟨(some 18), none, .extract 0 (.s 15)⟩,
      ⟨(some 19), none, .extract 1 (.s 15)⟩,
      ⟨(some 3), none, .alloc 3 (List.replicate 6 (i64 0) ++ [st []] ++ [.sl .plain none 0 []])⟩,
      ⟨none, none, .store (some 8) 3 false (.s 3) (.s 18)⟩,
      ⟨(some 4), none, .mv false (.s 19)⟩]) (
  f_custodylaw28_sanity_r3)
def f_custodylaw28_sanity_r1 : ACode :=
  .seq (
    .region [1, 2] [.norm [1]] [
      ⟨(some 13), none, .load (some 8) (some 1) false (.s 1)⟩,
      ⟨(some 14), none, .call 130 [(.s 13)] []⟩,
      ⟨(some 2), none, .mv true (.s 14)⟩]) (
  f_custodylaw28_sanity_r2)
def f_custodylaw28_sanity_r0 : ACode :=
  .seq (
    .region [1] [.norm [1]] [
      ⟨(some 12), none, .build [i64 0, i64 0, i64 0, i64 0, i64 0, i64 0, st [], .sl .plain none 0 []] [(0, 1, (.c (i64 12))), (1, 1, (.c (i64 5)))]⟩,
      ⟨(some 1), none, .alloc 1 (List.replicate 6 (i64 0) ++ [st []] ++ [.sl .plain none 0 []])⟩,
      ⟨none, none, .store (some 8) 1 false (.s 1) (.s 12)⟩]) (
  f_custodylaw28_sanity_r1)
def f_custodylaw28_sanity : AFun :=
 { n := 0, wr := [], res := [.t 0], body :=
    .seq (
      .region [] [] [
        ⟨(some 0), none, .mv false (.c (bo false))⟩]) (
    f_custodylaw28_sanity_r0) }

end Go.Abs
end
