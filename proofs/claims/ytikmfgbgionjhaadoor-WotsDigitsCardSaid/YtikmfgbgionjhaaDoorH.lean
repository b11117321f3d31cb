/- Lemmas: an abstract interpreter, and what the functions compute. -/
import Derived.Test.YtikmfgbgionjhaaDoorD
import Derived.Test.YtikmfgbgionjhaaDoorC
import Derived.Test.YtikmfgbgionjhaaDoorE
set_option linter.unusedSimpArgs false
set_option linter.unusedVariables false
set_option linter.unusedSectionVars false
section
namespace Go.Abs
set_option maxRecDepth 100000
/-- custody kdf.Derive = 76; calls hash.Mac = 6, wire.Bytes = 7 -/
def f_kdf_Derive_r5 : ACode :=
  .region [7, 12, 13, 14] [] [
    ⟨(some 18), none, .mv true (.s 7)⟩,
    ⟨(some 19), none, .mv false (.s 9)⟩,
    ⟨(some 20), none, .call 7 [(.s 19)] []⟩,
    ⟨(some 21), none, .append 1 1 false (some false) none 18 (.s 20)⟩,
    ⟨(some 7), none, .mv true (.s 21)⟩]
def f_kdf_Derive_r4 : ACode :=
  .seq (
    .block 1 (
      .seq (
        .region [7, 9, 12, 13, 14] [] [
          ⟨(some 16), none, .idxSl 1 (.s 12) (.s 14)⟩,
          ⟨(some 17), none, .load none none false (.s 16)⟩,
          ⟨(some 9), none, .mv false (.s 17)⟩]) (
      f_kdf_Derive_r5))) (
  .region [7, 12, 13, 14] [] [
    ⟨(some 22), none, .bin .add (.s 14) (.c (i64 1))⟩,
    ⟨(some 14), none, .mv false (.s 22)⟩])
def f_kdf_Derive_r3 : ACode :=
  .seq (
    .cond (.s 15) (
      .ghost (.keep [7, 12, 13, 14]) .skip) (
      .ghost (.keep [7]) (.exit 0))) (
  f_kdf_Derive_r4)
def f_kdf_Derive_l0 : ACode :=
  .seq (
    .region [7, 12, 13, 14, 15] [] [
      ⟨(some 15), none, .bin .lss (.s 14) (.s 13)⟩]) (
  f_kdf_Derive_r3)
def f_kdf_Derive_r2 : ACode :=
  .block 0 (
    .loop f_kdf_Derive_l0)
def f_kdf_Derive_r6 : ACode :=
  .seq (
    .region [6] [] [
      ⟨(some 23), none, .mv false (.s 0)⟩,
      ⟨(some 24), none, .mv true (.s 7)⟩,
      ⟨(some 25), none, .toStr none (.s 24)⟩,
      ⟨(some 26), none, .call 6 [(.s 23), (.s 25)] []⟩,
      ⟨(some 6), none, .mv false (.s 26)⟩]) (
  .ret)
def f_kdf_Derive_r1 : ACode :=
  .seq (
    .seq (
      .region [7, 12, 13, 14] [] [
        ⟨(some 12), none, .mv false (.s 2)⟩,
        ⟨(some 13), none, .len false (.s 12)⟩,
        ⟨(some 14), none, .mv false (.c (i64 0))⟩]) (
    f_kdf_Derive_r2)) (
  f_kdf_Derive_r6)
def f_kdf_Derive_r0 : ACode :=
  .seq (
    .region [7] [] [
      ⟨(some 10), none, .mv false (.s 1)⟩,
      ⟨(some 11), none, .call 7 [(.s 10)] []⟩,
      ⟨(some 7), none, .mv true (.s 11)⟩]) (
  f_kdf_Derive_r1)
def f_kdf_Derive : AFun :=
 { n := 3, wr := [], res := [.t 6], body :=
    .seq (
      .region [] [] [
        ⟨(some 6), none, .mv false (.c (st []))⟩]) (
    f_kdf_Derive_r0) }

/-- custody custodyref05.Derive = 78; calls custodyref02.Mac = 18, custodyref05.Input = 77 -/
def f_custodyref05_Derive_r0 : ACode :=
  .seq (
    .region [6] [] [
      ⟨(some 7), none, .mv false (.s 0)⟩,
      ⟨(some 8), none, .mv false (.s 1)⟩,
      ⟨(some 9), none, .mv false (.s 2)⟩,
      ⟨(some 10), none, .call 77 [(.s 8), (.s 9)] []⟩,
      ⟨(some 11), none, .call 18 [(.s 7), (.s 10)] []⟩,
      ⟨(some 6), none, .mv false (.s 11)⟩]) (
  .ret)
def f_custodyref05_Derive : AFun :=
 { n := 3, wr := [], res := [.t 6], body :=
    .seq (
      .region [] [] [
        ⟨(some 6), none, .mv false (.c (st []))⟩]) (
    f_custodyref05_Derive_r0) }

/-- custody kdf.Path = 79; calls kdf.Derive = 76 -/
def f_kdf_Path_r4 : ACode :=
  .region [0, 7, 8, 9] [] [
    ⟨(some 13), none, .mv false (.s 0)⟩,
    ⟨(some 14), none, .mv false (.s 6)⟩,
    ⟨(some 15), none, .call 76 [(.s 13), (.s 14), (.c (.lit (.slice none 0 0)))] []⟩,
    ⟨(some 0), none, .mv false (.s 15)⟩]
def f_kdf_Path_r3 : ACode :=
  .seq (
    .block 1 (
      .seq (
        .region [0, 6, 7, 8, 9] [] [
          ⟨(some 11), none, .idxSl 1 (.s 7) (.s 9)⟩,
          ⟨(some 12), none, .load none none false (.s 11)⟩,
          ⟨(some 6), none, .mv false (.s 12)⟩]) (
      f_kdf_Path_r4))) (
  .region [0, 7, 8, 9] [] [
    ⟨(some 16), none, .bin .add (.s 9) (.c (i64 1))⟩,
    ⟨(some 9), none, .mv false (.s 16)⟩])
def f_kdf_Path_r2 : ACode :=
  .seq (
    .cond (.s 10) (
      .ghost (.keep [0, 7, 8, 9]) .skip) (
      .ghost (.keep [0]) (.exit 0))) (
  f_kdf_Path_r3)
def f_kdf_Path_l0 : ACode :=
  .seq (
    .region [0, 7, 8, 9, 10] [] [
      ⟨(some 10), none, .bin .lss (.s 9) (.s 8)⟩]) (
  f_kdf_Path_r2)
def f_kdf_Path_r1 : ACode :=
  .block 0 (
    .loop f_kdf_Path_l0)
def f_kdf_Path_r5 : ACode :=
  .seq (
    .region [4] [] [
      ⟨(some 17), none, .mv false (.s 0)⟩,
      ⟨(some 4), none, .mv false (.s 17)⟩]) (
  .ret)
def f_kdf_Path_r0 : ACode :=
  .seq (
    .seq (
      .region [0, 7, 8, 9] [] [
        ⟨(some 7), none, .mv false (.s 1)⟩,
        ⟨(some 8), none, .len false (.s 7)⟩,
        ⟨(some 9), none, .mv false (.c (i64 0))⟩]) (
    f_kdf_Path_r1)) (
  f_kdf_Path_r5)
def f_kdf_Path : AFun :=
 { n := 2, wr := [0], res := [.t 4], body :=
    .seq (
      .region [0] [] [
        ⟨(some 4), none, .mv false (.c (st []))⟩]) (
    f_kdf_Path_r0) }

/-- custody custodyref05.Path = 80; calls custodyref05.Derive = 78 -/
def f_custodyref05_Path_r3 : ACode :=
  .cond (.s 11) (
    .ghost (.keep [5, 6]) .skip) (
    .ghost (.keep [5]) (.exit 0))
def f_custodyref05_Path_r4 : ACode :=
  .seq (
    .block 1 (
      .region [5, 6] [] [
        ⟨(some 14), none, .mv false (.s 5)⟩,
        ⟨(some 15), none, .mv false (.s 1)⟩,
        ⟨(some 16), none, .mv false (.s 6)⟩,
        ⟨(some 17), none, .idxSl 1 (.s 15) (.s 16)⟩,
        ⟨(some 18), none, .load none none false (.s 17)⟩,
        ⟨(some 19), none, .call 78 [(.s 14), (.s 18), (.c (.lit (.slice none 0 0)))] []⟩,
        ⟨(some 5), none, .mv false (.s 19)⟩])) (
  .region [5, 6] [] [
    ⟨(some 12), none, .mv false (.s 6)⟩,
    ⟨(some 13), none, .bin .add (.s 12) (.c (i64 1))⟩,
    ⟨(some 6), none, .mv false (.s 13)⟩])
def f_custodyref05_Path_l0 : ACode :=
  .seq (
    .seq (
      .region [5, 6, 11] [] [
        ⟨(some 8), none, .mv false (.s 6)⟩,
        ⟨(some 9), none, .mv false (.s 1)⟩,
        ⟨(some 10), none, .len false (.s 9)⟩,
        ⟨(some 11), none, .bin .lss (.s 8) (.s 10)⟩]) (
    f_custodyref05_Path_r3)) (
  f_custodyref05_Path_r4)
def f_custodyref05_Path_r2 : ACode :=
  .block 0 (
    .loop f_custodyref05_Path_l0)
def f_custodyref05_Path_r5 : ACode :=
  .seq (
    .region [4] [] [
      ⟨(some 20), none, .mv false (.s 5)⟩,
      ⟨(some 4), none, .mv false (.s 20)⟩]) (
  .ret)
def f_custodyref05_Path_r1 : ACode :=
  .seq (
    .seq (
      .region [5, 6] [] [
        ⟨(some 6), none, .mv false (.c (i64 0))⟩]) (
    f_custodyref05_Path_r2)) (
  f_custodyref05_Path_r5)
def f_custodyref05_Path_r0 : ACode :=
  .seq (
    .region [5] [] [
      ⟨(some 7), none, .mv false (.s 0)⟩,
      ⟨(some 5), none, .mv false (.s 7)⟩]) (
  f_custodyref05_Path_r1)
def f_custodyref05_Path : AFun :=
 { n := 2, wr := [], res := [.t 4], body :=
    .seq (
      .region [] [] [
        ⟨(some 4), none, .mv false (.c (st []))⟩]) (
    f_custodyref05_Path_r0) }

/-- custody custodyref05.Input = 77; calls custodyref01.Bytes = 29 -/
def f_custodyref05_Input_r3 : ACode :=
  .cond (.s 14) (
    .ghost (.keep [5, 6]) .skip) (
    .ghost (.keep [5]) (.exit 0))
def f_custodyref05_Input_r4 : ACode :=
  .seq (
    .block 1 (
      .region [5, 6] [] [
        ⟨(some 17), none, .mv true (.s 5)⟩,
        ⟨(some 18), none, .mv false (.s 1)⟩,
        ⟨(some 19), none, .mv false (.s 6)⟩,
        ⟨(some 20), none, .idxSl 1 (.s 18) (.s 19)⟩,
        ⟨(some 21), none, .load none none false (.s 20)⟩,
        ⟨(some 22), none, .call 29 [(.s 21)] []⟩,
        ⟨(some 23), none, .append 1 1 false (some false) none 17 (.s 22)⟩,
        ⟨(some 5), none, .mv true (.s 23)⟩])) (
  .region [5, 6] [] [
    ⟨(some 15), none, .mv false (.s 6)⟩,
    ⟨(some 16), none, .bin .add (.s 15) (.c (i64 1))⟩,
    ⟨(some 6), none, .mv false (.s 16)⟩])
def f_custodyref05_Input_l0 : ACode :=
  .seq (
    .seq (
      .region [5, 6, 14] [] [
        ⟨(some 11), none, .mv false (.s 6)⟩,
        ⟨(some 12), none, .mv false (.s 1)⟩,
        ⟨(some 13), none, .len false (.s 12)⟩,
        ⟨(some 14), none, .bin .lss (.s 11) (.s 13)⟩]) (
    f_custodyref05_Input_r3)) (
  f_custodyref05_Input_r4)
def f_custodyref05_Input_r2 : ACode :=
  .block 0 (
    .loop f_custodyref05_Input_l0)
def f_custodyref05_Input_r5 : ACode :=
  .seq (
    .region [4] [] [
      ⟨(some 24), none, .mv true (.s 5)⟩,
      ⟨(some 25), none, .toStr none (.s 24)⟩,
      ⟨(some 4), none, .mv false (.s 25)⟩]) (
  .ret)
def f_custodyref05_Input_r1 : ACode :=
  .seq (
    .seq (
      .region [5, 6] [] [
        ⟨(some 6), none, .mv false (.c (i64 0))⟩]) (
    f_custodyref05_Input_r2)) (
  f_custodyref05_Input_r5)
def f_custodyref05_Input_r0 : ACode :=
  .seq (
    .region [5] [] [
      ⟨(some 7), none, .buildSl 1 0 [] []⟩,
      ⟨(some 8), none, .mv false (.s 0)⟩,
      ⟨(some 9), none, .call 29 [(.s 8)] []⟩,
      ⟨(some 10), none, .append 1 1 false (some false) none 7 (.s 9)⟩,
      ⟨(some 5), none, .mv true (.s 10)⟩]) (
  f_custodyref05_Input_r1)
def f_custodyref05_Input : AFun :=
 { n := 2, wr := [], res := [.t 4], body :=
    .seq (
      .region [] [] [
        ⟨(some 4), none, .mv false (.c (st []))⟩]) (
    f_custodyref05_Input_r0) }

/-- (custody kdf.Random).Next = 75; calls kdf.Derive = 76 -/
def f_kdf_Random_Next_r0 : ACode :=
  .seq (
    .region [2, 3] [.norm [1, 3]] [
      ⟨(some 4), none, .fieldAddr 0 (.s 1)⟩,
      ⟨(some 5), none, .load none (some 1) false (.s 4)⟩,
      ⟨(some 6), none, .call 76 [(.s 5), (.c (st [118, 97, 108, 117, 101])), (.c (.lit (.slice none 0 0)))] []⟩,
      ⟨(some 7), none, .fieldAddr 0 (.s 1)⟩,
      ⟨(some 8), none, .load none (some 1) false (.s 7)⟩,
      ⟨(some 9), none, .call 76 [(.s 8), (.c (st [115, 101, 101, 100])), (.c (.lit (.slice none 0 0)))] []⟩,
      ⟨(some 10), none, .build [st []] [(0, 1, (.s 9))]⟩,
      ⟨(some 2), none, .mv false (.s 6)⟩,
      ⟨none, none, .store (some 1) 3 false (.s 3) (.s 10)⟩]) (
  .ret)
def f_kdf_Random_Next : AFun :=
 { n := 1, wr := [], res := [.t 2, .cell 3 (some 1) 3], body :=
    .seq (
      .region [1, 3] [.norm [1, 3]] [
        ⟨(some 1), none, .box 1 (some 1) false (.s 0)⟩,
        ⟨(some 2), none, .mv false (.c (st []))⟩,
        ⟨(some 3), none, .alloc 3 [st []]⟩]) (
    f_kdf_Random_Next_r0) }

/-- (custody custodyref05.Random).Next = 81; calls custodyref05.Derive = 78 -/
def f_custodyref05_Random_Next_r0 : ACode :=
  .seq (
    .region [2, 3] [.norm [1, 3]] [
      ⟨(some 4), none, .fieldAddr 0 (.s 1)⟩,
      ⟨(some 5), none, .load none (some 1) false (.s 4)⟩,
      ⟨(some 6), none, .call 78 [(.s 5), (.c (st [118, 97, 108, 117, 101])), (.c (.lit (.slice none 0 0)))] []⟩,
      ⟨(some 7), none, .fieldAddr 0 (.s 1)⟩,
      ⟨(some 8), none, .load none (some 1) false (.s 7)⟩,
      ⟨(some 9), none, .call 78 [(.s 8), (.c (st [115, 101, 101, 100])), (.c (.lit (.slice none 0 0)))] []⟩,
      ⟨(some 10), none, .build [st []] [(0, 1, (.s 9))]⟩,
      ⟨(some 2), none, .mv false (.s 6)⟩,
      ⟨none, none, .store (some 1) 3 false (.s 3) (.s 10)⟩]) (
  .ret)
def f_custodyref05_Random_Next : AFun :=
 { n := 1, wr := [], res := [.t 2, .cell 3 (some 1) 3], body :=
    .seq (
      .region [1, 3] [.norm [1, 3]] [
        ⟨(some 1), none, .box 1 (some 1) false (.s 0)⟩,
        ⟨(some 2), none, .mv false (.c (st []))⟩,
        ⟨(some 3), none, .alloc 3 [st []]⟩]) (
    f_custodyref05_Random_Next_r0) }

/-- (custody kdf.Random).Bytes = 74; calls kdf.Random).values = 73 -/
def f_kdf_Random_Bytes_r1 : ACode :=
  .cond (.s 15) (
    .seq (
      .region [4, 5] [.norm [2, 3, 5]] [
        ⟨(some 16), none, .load (some 1) (some 2) false (.s 2)⟩,
        ⟨(some 4), none, .mv false (.c (st []))⟩,
        ⟨none, none, .store (some 1) 5 false (.s 5) (.s 16)⟩]) (
    .ret)) (
    .ghost (.keep [2, 3, 5]) .skip)
def f_kdf_Random_Bytes_r8 : ACode :=
  .cond (.s 34) (
    .ghost (.keep [3, 5, 6, 7]) (.exit 0)) (
    .ghost (.keep [3, 5, 6, 7]) (.ghost (.drop [9]) .skip))
def f_kdf_Random_Bytes_r7 : ACode :=
  .seq (
    .region [3, 5, 6, 7, 34] [.norm [2, 3, 5, 7, 9, 1000006]] [
      ⟨(some 32), none, .bld 0 1000006 (.s 6) none (.c .undef)⟩,
      ⟨(some 33), none, .load none (some 3) false (.s 3)⟩,
      ⟨(some 34), none, .bin .eql (.s 32) (.s 33)⟩]) (
  f_kdf_Random_Bytes_r8)
def f_kdf_Random_Bytes_r6 : ACode :=
  .seq (
    .region [3, 5, 6, 7] [.norm [2, 3, 5, 7, 9, 1000006]] [
      ⟨(some 31), none, .load (some 1) (some 9) false (.s 9)⟩,
      ⟨none, none, .store (some 1) 7 false (.s 7) (.s 31)⟩]) (
  f_kdf_Random_Bytes_r7)
def f_kdf_Random_Bytes_a0 : ACode :=
  .seq (
    .region [3, 5, 6, 7, 8, 21] [] [
      ⟨(some 8), none, .mv false (.s 20)⟩]) (
  .region [3, 5, 6, 7, 8, 9] [.norm [2, 3, 5, 7, 9, 1000006]] [
    ⟨(some 9), none, .alloc 9 [st []]⟩,
    ⟨none, none, .store (some 1) 9 false (.s 9) (.s 21)⟩])
def f_kdf_Random_Bytes_b0 : ACode :=
  .block 1 (
    .seq (
      .region [3, 5, 6, 7, 9] [.norm [2, 3, 5, 7, 9, 1000006]] [
        ⟨(some 22), none, .mv false (.s 8)⟩,
        ⟨(some 23), none, .mv false (.s 8)⟩,
        ⟨(some 24), none, .len true (.s 23)⟩,
        ⟨(some 25), none, .load none (some 3) false (.s 3)⟩,
        ⟨(some 26), none, .bld 0 1000006 (.s 6) none (.c .undef)⟩,
        ⟨(some 27), none, .bin .sub (.s 25) (.s 26)⟩,
        ⟨(some 28), none, .min2 (.s 24) (.s 27)⟩,
        ⟨(some 29), none, .slStr (.s 22) none (some (.s 28))⟩,
        ⟨(some 30), none, .bld 1 1000006 (.s 6) none (.s 29)⟩]) (
    f_kdf_Random_Bytes_r6))
def f_kdf_Random_Bytes_r5 : ACode :=
  .block 0 (
    .range 73 (.s 19) [3, 5, 6, 7] [20, 21] (
  f_kdf_Random_Bytes_a0) (
  f_kdf_Random_Bytes_b0))
def f_kdf_Random_Bytes_r9 : ACode :=
  .seq (
    .region [4, 5] [.norm [2, 3, 5, 7, 9, 1000006]] [
      ⟨(some 35), none, .bld 3 1000006 (.s 6) none (.c .undef)⟩,
      ⟨(some 36), none, .load (some 1) (some 7) false (.s 7)⟩,
      ⟨(some 4), none, .mv false (.s 35)⟩,
      ⟨none, none, .store (some 1) 5 false (.s 5) (.s 36)⟩]) (
  .ret)
def f_kdf_Random_Bytes_r4 : ACode :=
  .seq (
    .seq (
      .region [3, 5, 6, 7, 19] [.norm [2, 3, 5, 7, 1000006]] [
        ⟨(some 18), none, .load (some 1) (some 2) false (.s 2)⟩,
        ⟨(some 19), none, .mkfn 73 [(.s 18)] []⟩]) (
    f_kdf_Random_Bytes_r5)) (
  f_kdf_Random_Bytes_r9)
def f_kdf_Random_Bytes_r3 : ACode :=
  .seq (
    .region [2, 3, 5, 6, 7] [.norm [2, 3, 5, 7, 1000006]] [
      ⟨(some 17), none, .load (some 1) (some 2) false (.s 2)⟩,
      ⟨(some 7), none, .alloc 7 [st []]⟩,
      ⟨none, none, .store (some 1) 7 false (.s 7) (.s 17)⟩]) (
  f_kdf_Random_Bytes_r4)
def f_kdf_Random_Bytes_r2 : ACode :=
  .seq (
    .region [2, 3, 5, 6] [.norm [2, 3, 5, 1000006]] [
      ⟨(some 6), none, .newB 1000006⟩]) (
  f_kdf_Random_Bytes_r3)
def f_kdf_Random_Bytes_r0 : ACode :=
  .seq (
    .seq (
      .region [2, 3, 5, 15] [.norm [2, 3, 5]] [
        ⟨(some 10), none, .load none (some 3) false (.s 3)⟩,
        ⟨(some 11), none, .bin .leq (.s 10) (.c (i64 0))⟩,
        ⟨(some 12), none, .mv false (.s 11)⟩,
        ⟨(some 13), (some (12, false)), .load none (some 3) false (.s 3)⟩,
        ⟨(some 14), (some (12, false)), .bin .gtr (.s 13) (.c (i64 8000))⟩,
        ⟨(some 15), none, .pick (.s 12) (.c (bo true)) (.s 14)⟩]) (
    f_kdf_Random_Bytes_r1)) (
  f_kdf_Random_Bytes_r2)
def f_kdf_Random_Bytes : AFun :=
 { n := 2, wr := [], res := [.t 4, .cell 5 (some 1) 5], body :=
    .seq (
      .region [2, 3, 5] [.norm [2, 3, 5]] [
        ⟨(some 2), none, .box 2 (some 1) false (.s 0)⟩,
        ⟨(some 3), none, .box 3 none false (.s 1)⟩,
        ⟨(some 4), none, .mv false (.c (st []))⟩,
        ⟨(some 5), none, .alloc 5 [st []]⟩]) (
    f_kdf_Random_Bytes_r0) }

/-- (custody custodyref05.Random).Bytes = 82; calls custodyref05.Random).Next = 81 -/
def f_custodyref05_Random_Bytes_r1 : ACode :=
  .cond (.s 15) (
    .seq (
      .region [4, 5] [.norm [2, 5]] [
        ⟨(some 16), none, .load (some 1) (some 2) false (.s 2)⟩,
        ⟨(some 4), none, .mv false (.c (st []))⟩,
        ⟨none, none, .store (some 1) 5 false (.s 5) (.s 16)⟩]) (
    .ret)) (
    .ghost (.keep [2, 5]) .skip)
def f_custodyref05_Random_Bytes_r5 : ACode :=
  .cond (.s 21) (
    .ghost (.keep [5, 6, 7]) .skip) (
    .ghost (.keep [5, 6, 7]) (.exit 0))
def f_custodyref05_Random_Bytes_r7 : ACode :=
  .seq (
    .region [5, 6, 7, 9] [] [
      ⟨(some 27), none, .mv false (.s 6)⟩,
      ⟨(some 28), none, .mv false (.s 8)⟩,
      ⟨(some 29), none, .bin .add (.s 27) (.s 28)⟩,
      ⟨(some 6), none, .mv false (.s 29)⟩]) (
  .region [5, 6, 7] [.norm [2, 5, 7, 9], .drop [9]] [
    ⟨(some 30), none, .load (some 1) (some 9) false (.s 9)⟩,
    ⟨none, none, .store (some 1) 7 false (.s 7) (.s 30)⟩])
def f_custodyref05_Random_Bytes_r6 : ACode :=
  .block 1 (
    .seq (
      .region [5, 6, 7, 8, 9] [.norm [2, 5, 7, 9]] [
        ⟨(some 23), none, .load (some 1) (some 7) false (.s 7)⟩,
        ⟨(some 24), none, .call 81 [(.s 23)] []⟩,
        ⟨(some 22), none, .mv false (.s 24)⟩,
        ⟨(some 25), none, .extract 0 (.s 22)⟩,
        ⟨(some 26), none, .extract 1 (.s 22)⟩,
        ⟨(some 9), none, .alloc 9 [st []]⟩,
        ⟨(some 8), none, .mv false (.s 25)⟩,
        ⟨none, none, .store (some 1) 9 false (.s 9) (.s 26)⟩]) (
    f_custodyref05_Random_Bytes_r7))
def f_custodyref05_Random_Bytes_l0 : ACode :=
  .seq (
    .seq (
      .region [5, 6, 7, 21] [] [
        ⟨(some 18), none, .mv false (.s 6)⟩,
        ⟨(some 19), none, .len true (.s 18)⟩,
        ⟨(some 20), none, .mv false (.s 1)⟩,
        ⟨(some 21), none, .bin .lss (.s 19) (.s 20)⟩]) (
    f_custodyref05_Random_Bytes_r5)) (
  f_custodyref05_Random_Bytes_r6)
def f_custodyref05_Random_Bytes_r8 : ACode :=
  .seq (
    .region [4, 5] [.norm [2, 5, 7, 9]] [
      ⟨(some 31), none, .mv false (.s 6)⟩,
      ⟨(some 32), none, .mv false (.s 1)⟩,
      ⟨(some 33), none, .slStr (.s 31) none (some (.s 32))⟩,
      ⟨(some 34), none, .load (some 1) (some 7) false (.s 7)⟩,
      ⟨(some 4), none, .mv false (.s 33)⟩,
      ⟨none, none, .store (some 1) 5 false (.s 5) (.s 34)⟩]) (
  .ret)
def f_custodyref05_Random_Bytes_r4 : ACode :=
  .seq (
    .block 0 (
      .loop f_custodyref05_Random_Bytes_l0)) (
  f_custodyref05_Random_Bytes_r8)
def f_custodyref05_Random_Bytes_r3 : ACode :=
  .seq (
    .region [5, 6, 7] [.norm [2, 5, 7]] [
      ⟨(some 17), none, .load (some 1) (some 2) false (.s 2)⟩,
      ⟨(some 7), none, .alloc 7 [st []]⟩,
      ⟨none, none, .store (some 1) 7 false (.s 7) (.s 17)⟩]) (
  f_custodyref05_Random_Bytes_r4)
def f_custodyref05_Random_Bytes_r2 : ACode :=
  .seq (
    .region [2, 5, 6] [] [
      ⟨(some 6), none, .mv false (.c (st []))⟩]) (
  f_custodyref05_Random_Bytes_r3)
def f_custodyref05_Random_Bytes_r0 : ACode :=
  .seq (
    .seq (
      .region [2, 5, 15] [] [
        ⟨(some 10), none, .mv false (.s 1)⟩,
        ⟨(some 11), none, .bin .lss (.s 10) (.c (i64 0))⟩,
        ⟨(some 12), none, .mv false (.s 11)⟩,
        ⟨(some 13), (some (12, false)), .mv false (.s 1)⟩,
        ⟨(some 14), (some (12, false)), .bin .gtr (.s 13) (.c (i64 8000))⟩,
        ⟨(some 15), none, .pick (.s 12) (.c (bo true)) (.s 14)⟩]) (
    f_custodyref05_Random_Bytes_r1)) (
  f_custodyref05_Random_Bytes_r2)
def f_custodyref05_Random_Bytes : AFun :=
 { n := 2, wr := [], res := [.t 4, .cell 5 (some 1) 5], body :=
    .seq (
      .region [2, 5] [.norm [2, 5]] [
        ⟨(some 2), none, .box 2 (some 1) false (.s 0)⟩,
        ⟨(some 4), none, .mv false (.c (st []))⟩,
        ⟨(some 5), none, .alloc 5 [st []]⟩]) (
    f_custodyref05_Random_Bytes_r0) }

/-- (custody kdf.Random).values (iterator) = 73; calls kdf.Random).Next = 75 -/
def f_kdf_Random_values_r0 : ACode :=
  .cond (.s 7) (
    .ghost (.keep [2]) .skip) (
    .ghost (.keep []) (.exit 0))
def f_kdf_Random_values_p0 : ACode :=
  .seq (
    .region [2, 7] [] [
      ⟨(some 7), none, .mv false (.s 4)⟩]) (
  f_kdf_Random_values_r0)
def f_kdf_Random_values_p1 : ACode :=
  .region [2, 5, 6] [.norm [2, 6]] [
    ⟨(some 9), none, .load (some 1) (some 2) false (.s 2)⟩,
    ⟨(some 10), none, .call 75 [(.s 9)] []⟩,
    ⟨(some 8), none, .mv false (.s 10)⟩,
    ⟨(some 11), none, .extract 0 (.s 8)⟩,
    ⟨(some 12), none, .extract 1 (.s 8)⟩,
    ⟨(some 6), none, .alloc 6 [st []]⟩,
    ⟨(some 5), none, .mv false (.s 11)⟩,
    ⟨none, none, .store (some 1) 6 false (.s 6) (.s 12)⟩]
def f_kdf_Random_values_i0 : ICode :=
                  .seq (
                    .yield [2, 4, 6] [.norm [2, 6]] [
                      ⟨(some 13), none, .mv false (.s 1)⟩,
                      ⟨(some 14), none, .mv false (.s 5)⟩,
                      ⟨(some 15), none, .load (some 1) (some 6) false (.s 6)⟩] (some 16) 13 [(.s 14), (.s 15)] [
                      ⟨(some 4), none, .mv false (.s 16)⟩]) (
                    .plain (
  .region [2, 4] [.norm [2, 6], .drop [6]] [
    ⟨(some 17), none, .load (some 1) (some 6) false (.s 6)⟩,
    ⟨none, none, .store (some 1) 2 false (.s 2) (.s 17)⟩]))
def f_kdf_Random_values_i1 : ICode :=
              .block 1 (
                .seq (
                  .plain f_kdf_Random_values_p1) (
                  f_kdf_Random_values_i0))
def f_kdf_Random_values_i2 : ICode :=
            .seq (
              .plain f_kdf_Random_values_p0) (
              f_kdf_Random_values_i1)
def f_kdf_Random_values_i3 : ICode :=
        .block 0 (
          .loop (
            f_kdf_Random_values_i2))
def f_kdf_Random_values_i4 : ICode :=
      .seq (
        .plain (
  .region [2, 4] [] [
    ⟨(some 4), none, .mv false (.c (bo true))⟩])) (
        f_kdf_Random_values_i3)
def f_kdf_Random_values : IFun :=
 { nx := 1, ny := 0, body :=
    .seq (
      .plain (
  .region [2] [.norm [2]] [
    ⟨(some 2), none, .box 2 (some 1) false (.s 0)⟩])) (
      f_kdf_Random_values_i4) }

end Go.Abs
end

section
namespace Go.Abs

/-! ### strings.Builder -/
@[simp] theorem bldEff0 (id : Nat) (c x : AVal) (xs : List AVal) : bldEff 0 id c x xs = { val := i64 (slen c) } := rfl
@[simp] theorem bldEff1 (id : Nat) (c x : AVal) (xs : List AVal) : bldEff 1 id c x xs = { val := .tup [i64 (slen x), .lit .nilIface], bx := [(id, some [.undef, .sl (.own 1) none (slen c + slen x) (scells [] c ++ xs)])] } := rfl
@[simp] theorem bldEff2 (id : Nat) (c x : AVal) (xs : List AVal) : bldEff 2 id c x xs = { val := .tup [i64 (slen x), .lit .nilIface], bx := [(id, some [.undef, .sl (.own 1) none (slen c + slen x) (scells [] c ++ xs)])] } := rfl
@[simp] theorem bldEff3 (id : Nat) (nl : Option Bool) (n : Nat) (l : List UInt8) (x : AVal) (xs : List AVal) : bldEff 3 id (.sl (.own 1) nl n (bys l)) x xs = { val := st l, bx := [(id, some [])] } := by
  show ({ val := .lit (.string (bytesOf (bytesA l))), bx := _ } : Eff) = _
  rw [bytesOf_bytesA]
  rfl
theorem bldOk0 {id n : Nat} {nl : Option Bool} {l : List UInt8} {b : Option Nat} {bb : Option (List AVal)} {x : AVal} {xs : List AVal} (hn : n = l.length) : bldOk 0 id (some [.undef, .sl (.own 1) nl n (bys l)]) b bb x xs = True :=
  eq_true ⟨nl, l, by rw [hn]; rfl, trivial⟩
theorem bldOk1 {id n : Nat} {nl : Option Bool} {l s : List UInt8} {b : Option Nat} {bb : Option (List AVal)} {xs : List AVal} (hn : n = l.length) (h : l.length + s.length ≤ 140737488355328) : bldOk 1 id (some [.undef, .sl (.own 1) nl n (bys l)]) b bb (st s) xs = True :=
  eq_true ⟨nl, l, by rw [hn]; rfl, trivial, by rw [slen_st]; exact h⟩
theorem bldOk3 {id n : Nat} {nl : Option Bool} {l : List UInt8} {b : Option Nat} {bb : Option (List AVal)} {x : AVal} {xs : List AVal} (hn : n = l.length) (h : l ≠ []) : bldOk 3 id (some [.undef, .sl (.own 1) nl n (bys l)]) b bb x xs = True :=
  eq_true ⟨nl, l, by rw [hn]; rfl, h⟩

theorem kT {E : Env} {c : Arg} {a b : ACode} {Q : AExit → ASt → Prop} {s : ASt} (h : arg E s.get c = bo true) : awp E (.cond c a b) Q s = awp E a Q s := by
  rw [awp_cond, h]; simp
theorem kF {E : Env} {c : Arg} {a b : ACode} {Q : AExit → ASt → Prop} {s : ASt} (h : arg E s.get c = bo false) : awp E (.cond c a b) Q s = awp E b Q s := by
  rw [awp_cond, h]; simp

/-! ### Iterators -/
theorem postI_then {f : Nat × Bool → ASt → Prop} {Q : IQ} {p : Nat × Bool} : (fun e st' => thenI f Q e p st') = thenQ (fun st' => f p st') (fun e st' => Q e p st') := by
  funext e st'
  cases e <;> rfl
theorem postI_block {i : Nat} {Q : IQ} {p : Nat × Bool} : (fun e st' => blockI i Q e p st') = blockQ i (fun e st' => Q e p st') := by
  funext e st'
  cases e <;> rfl
@[simp] theorem iwp_plain (E : Env) (l : Nat) (el : Nat → Option (List AVal)) (c : ACode) (Q : IQ) (p : Nat × Bool) (s : ASt) : iwpL E l el (.plain c) Q p s = awp E c (fun e st' => Q e p st') s := rfl
@[simp] theorem iwp_seqp (E : Env) (l : Nat) (el : Nat → Option (List AVal)) (c : ACode) (b : ICode) (Q : IQ) (p : Nat × Bool) (s : ASt) : iwpL E l el (.seq (.plain c) b) Q p s = awp E c (thenQ (fun st' => iwpL E l el b Q p st') (fun e st' => Q e p st')) s := by
  simp only [iwpL, postI_then]
@[simp] theorem iwp_block (E : Env) (l : Nat) (el : Nat → Option (List AVal)) (i : Nat) (b : ICode) (Q : IQ) (p : Nat × Bool) (s : ASt) : iwpL E l el (.block i b) Q p s = iwpL E l el b (blockI i Q) p s := rfl
@[simp] theorem thenI_normal (f : Nat × Bool → ASt → Prop) (Q : IQ) (p : Nat × Bool) (s : ASt) : thenI f Q .normal p s = f p s := rfl
@[simp] theorem thenI_exit (f : Nat × Bool → ASt → Prop) (Q : IQ) (i : Nat) (p : Nat × Bool) (s : ASt) : thenI f Q (.exit i) p s = Q (.exit i) p s := rfl
@[simp] theorem blockI_normal (i : Nat) (Q : IQ) (p : Nat × Bool) (s : ASt) : blockI i Q .normal p s = Q .normal p s := rfl
@[simp] theorem blockI_same (i : Nat) (Q : IQ) (p : Nat × Bool) (s : ASt) : blockI i Q (.exit i) p s = Q .normal p s := by simp [blockI]
def runK (E : Env) (f : ASt → Prop) : List AOper → ASt → Prop
  | [], st => f st
  | o :: os, st => okA E o st ∧ runK E f os (stepA E o st)
attribute [simp] runK
theorem runK_eq (E : Env) (f : ASt → Prop) : ∀ (xs : List AOper) (st : ASt), runK E f xs st = (okRun E xs st ∧ f (runA E xs st))
  | [], st => by simp only [runK, okRun, runA, true_and]
  | o :: os, st => by simp only [runK, okRun, runA, runK_eq E f os]; exact propext and_assoc.symm
@[simp] theorem iwp_yield (E : Env) (l : Nat) (el : Nat → Option (List AVal)) (keep : List Nat) (gs : List Ghost) (xs : List AOper) (d : Option Nat) (y : Nat) (as : List Arg) (zs : List AOper) (Q : IQ) (p : Nat × Bool) (s : ASt) :
    iwpL E l el (.yield keep gs xs d y as zs) Q p s = ((∀ s' ∈ d.toList, lk s.org s' = none) ∧ runK E (fun st1 => p.2 = false ∧ el p.1 = some (as.map (arg E st1.get)) ∧ memFreeL (as.map (arg E st1.get)) = true ∧ st1.get y = .lit (.func (.yield l) #[] #[]) ∧ (∀ q ∈ st1.env, yOk q.2 = true) ∧ (∀ q ∈ st1.box, ∀ cs, q.2 = some cs → cs.all yOk = true ∧ q.1 < 1000000) ∧
      ∀ b : Bool, runR E keep gs (fun e s => Q e (if b then (p.1 + 1, false) else (p.1, true)) s) zs (putB d b st1)) xs s) := by
  simp only [runK_eq, runR_eq, iwpL]
  apply propext
  constructor
  · rintro ⟨h1, h2, h3, h4, h5, h6, h7, h8, h9⟩
    exact ⟨h2, h1, h3, h4, h5, h6, h7, h8, h9⟩
  · rintro ⟨h2, h1, h3, h4, h5, h6, h7, h8, h9⟩
    exact ⟨h1, h2, h3, h4, h5, h6, h7, h8, h9⟩
@[simp] theorem putB_some (d : Nat) (b : Bool) (o e : List (Nat × AVal)) (bx : List (Nat × Option (List AVal))) : putB (some d) b ⟨o, e, bx⟩ = ⟨o, (d, bo b) :: e, bx⟩ := rfl
@[simp] theorem putB_none (b : Bool) (o e : List (Nat × AVal)) (bx : List (Nat × Option (List AVal))) : putB none b ⟨o, e, bx⟩ = ⟨o, e, bx⟩ := rfl
@[simp] theorem yOk_undef : yOk .undef = true := rfl
@[simp] theorem yOk_bp (i o : Nat) : yOk (.bp i o) = true := rfl
@[simp] theorem yOk_lit (v : Value) : yOk (.lit v) = true := rfl
@[simp] theorem yOk_st (l : List UInt8) : yOk (st l) = true := rfl
@[simp] theorem yOk_bo (b : Bool) : yOk (bo b) = true := rfl
@[simp] theorem yOk_i64 (n : Int) : yOk (i64 n) = true := rfl
@[simp] theorem yOk_agg (cs : List AVal) : yOk (.agg cs) = memFreeL cs := rfl
@[simp] theorem yOk_tup (cs : List AVal) : yOk (.tup cs) = memFreeL cs := rfl
@[simp] theorem iwp_seqy (E : Env) (l : Nat) (el : Nat → Option (List AVal)) (keep : List Nat) (gs : List Ghost) (xs : List AOper) (d : Option Nat) (y : Nat) (as : List Arg) (zs : List AOper) (b : ICode) (Q : IQ) (p : Nat × Bool) (s : ASt) :
    iwpL E l el (.seq (.yield keep gs xs d y as zs) b) Q p s = iwpL E l el (.yield keep gs xs d y as zs) (thenI (fun p st => iwpL E l el b Q p st) Q) p s := rfl
theorem iwp_name {E : Env} {l : Nat} {el : Nat → Option (List AVal)} {b : ICode} {Q : IQ} {p : Nat × Bool} {s : ASt} (h : ∀ Q', Q' = Q → iwpL E l el b Q' p s) : iwpL E l el b Q p s := h Q rfl
theorem iwp_loop {E : Env} {l : Nat} {el : Nat → Option (List AVal)} {b : ICode} {Q : IQ} {p : Nat × Bool} {s : ASt} (I : Nat × Bool → ASt → Prop) (h0 : I p s)
    (h : ∀ p s, I p s → ∀ Q', (∀ p' s', I p' s' → p.2 = false → (p' = (p.1 + 1, false) ∨ p' = (p.1, true)) → Q' .normal p' s') → (∀ i p' s', Q' (.exit i) p' s' = Q (.exit i) p' s') → iwpL E l el b Q' p s) : iwpL E l el (.loop b) Q p s :=
  ⟨I, h0, fun p s hi => h p s hi _ (fun p' s' h1 h2 h3 => ⟨h1, h2, h3⟩) (fun _ _ _ => rfl)⟩

def minW (x y : AVal) : AVal := match x, y with | .lit (.int k a), .lit (.int _ b) => .lit (.int k (if b < a then b else a)) | _, _ => .undef
theorem eff_minW (E : Env) (get : Nat → AVal) (getB : Nat → Option (List AVal)) (x y : Arg) : eff E get getB (.min2 x y) = { val := minW (arg E get x) (arg E get y) } := rfl
theorem minW_i64 (a b : Int) : minW (i64 a) (i64 b) = i64 (if b < a then b else a) := rfl

/-! ### What is computed -/
def inp (label : List UInt8) (parts : List (List UInt8)) : List UInt8 := encS label ++ parts.flatMap encS
def drv (key label : List UInt8) (parts : List (List UInt8)) : List UInt8 := mac key (inp label parts)
theorem drv_len (k l : List UInt8) (p : List (List UInt8)) : (drv k l p).length = 32 := sha_len _
attribute [simp] drv_len
def pth (key : List UInt8) (ls : List (List UInt8)) : List UInt8 := ls.foldl (fun k l => drv k l []) key
def seedL : List UInt8 := [115, 101, 101, 100]
def valL : List UInt8 := [118, 97, 108, 117, 101]
/-- The generator after i steps; its value; what it yields in i steps. -/
def sdN (s : List UInt8) : Nat → List UInt8
  | 0 => s
  | i + 1 => drv (sdN s i) seedL []
def vlN (s : List UInt8) (i : Nat) : List UInt8 := drv (sdN s i) valL []
def stN (s : List UInt8) : Nat → List UInt8
  | 0 => []
  | i + 1 => stN s i ++ vlN s i
theorem stN_len (s : List UInt8) : ∀ i, (stN s i).length = 32 * i
  | 0 => rfl
  | i + 1 => by simp only [stN, vlN, List.length_append, stN_len s i, drv_len]; omega
def blkN (n : Int) : Nat := (n.toNat + 31) / 32
def bysN (s : List UInt8) (n : Int) : List UInt8 := if n ≤ 0 ∨ 8000 < n then [] else (stN s (blkN n)).take n.toNat
def aftN (s : List UInt8) (n : Int) : List UInt8 := if n ≤ 0 ∨ 8000 < n then s else sdN s (blkN n)

def derC : Contract := ⟨fun ds => ∃ (key label : List UInt8) (nl : Option Bool) (parts : List (List UInt8)), key.length < 1000000000 ∧ label.length < 1000000000 ∧ totS parts < 1000000000 ∧ ds = [st key, st label, .sl .plain nl parts.length (sts parts)], fun ds => st (drv (gS (nth ds 0)) (gS (nth ds 1)) (gSs (gCs (nth ds 2))))⟩
def inpC : Contract := ⟨fun ds => ∃ (label : List UInt8) (nl : Option Bool) (parts : List (List UInt8)), label.length < 1000000000 ∧ totS parts < 1000000000 ∧ ds = [st label, .sl .plain nl parts.length (sts parts)], fun ds => st (inp (gS (nth ds 0)) (gSs (gCs (nth ds 1))))⟩
def pthC : Contract := ⟨fun ds => ∃ (key : List UInt8) (nl : Option Bool) (ls : List (List UInt8)), key.length < 1000000000 ∧ totS ls < 1000000000 ∧ ds = [st key, .sl .plain nl ls.length (sts ls)], fun ds => st (pth (gS (nth ds 0)) (gSs (gCs (nth ds 1))))⟩
def gR (d : AVal) : List UInt8 := gS (nth (gCs d) 0)
def nxtC : Contract := ⟨fun ds => ∃ s : List UInt8, s.length < 1000000000 ∧ ds = [.agg [st s]], fun ds => .tup [st (drv (gR (nth ds 0)) valL []), .agg [st (drv (gR (nth ds 0)) seedL [])]]⟩
def gbysC : Contract := ⟨fun ds => ∃ (s : List UInt8) (n : Int), s.length < 1000000000 ∧ isI64 n ∧ ds = [.agg [st s], i64 n], fun ds => .tup [st (bysN (gR (nth ds 0)) (asI (nth ds 1))), .agg [st (aftN (gR (nth ds 0)) (asI (nth ds 1)))]]⟩
def valsC : ItC := ⟨fun x y => ∃ s : List UInt8, s.length < 1000000000 ∧ x = [.agg [st s]] ∧ y = [], fun x _ i => some [st (vlN (gR (nth x 0)) i), .agg [st (sdN (gR (nth x 0)) (i + 1))]]⟩

theorem der_pre {k l : List UInt8} {nl : Option Bool} {n : Nat} {p : List (List UInt8)} (hk : k.length < 1000000000) (hl : l.length < 1000000000) (hp : totS p < 1000000000) (hn : n = p.length) : derC.pre [st k, st l, .sl .plain nl n (sts p)] = True := eq_true ⟨k, l, nl, p, hk, hl, hp, by rw [hn]⟩
theorem der_pre0 {k l : List UInt8} {nl : Option Bool} (hk : k.length < 1000000000) (hl : l.length < 1000000000) : derC.pre [st k, st l, .sl .plain nl 0 []] = True := eq_true ⟨k, l, nl, [], hk, hl, by decide, rfl⟩
@[simp] theorem der_post (k l : List UInt8) (nl : Option Bool) (n : Nat) (p : List (List UInt8)) : derC.post [st k, st l, .sl .plain nl n (sts p)] = st (drv k l p) := by simp [derC]
@[simp] theorem der_post0 (k l : List UInt8) (nl : Option Bool) (n : Nat) : derC.post [st k, st l, .sl .plain nl n []] = st (drv k l []) := by
  have := der_post k l nl n []
  simpa using this
theorem inp_pre {l : List UInt8} {nl : Option Bool} {n : Nat} {p : List (List UInt8)} (hl : l.length < 1000000000) (hp : totS p < 1000000000) (hn : n = p.length) : inpC.pre [st l, .sl .plain nl n (sts p)] = True := eq_true ⟨l, nl, p, hl, hp, by rw [hn]⟩
@[simp] theorem inp_post (l : List UInt8) (nl : Option Bool) (n : Nat) (p : List (List UInt8)) : inpC.post [st l, .sl .plain nl n (sts p)] = st (inp l p) := by simp [inpC]
theorem pth_pre {k : List UInt8} {nl : Option Bool} {n : Nat} {p : List (List UInt8)} (hk : k.length < 1000000000) (hp : totS p < 1000000000) (hn : n = p.length) : pthC.pre [st k, .sl .plain nl n (sts p)] = True := eq_true ⟨k, nl, p, hk, hp, by rw [hn]⟩
@[simp] theorem pth_post (k : List UInt8) (nl : Option Bool) (n : Nat) (p : List (List UInt8)) : pthC.post [st k, .sl .plain nl n (sts p)] = st (pth k p) := by simp [pthC]
theorem nxt_pre {s : List UInt8} (h : s.length < 1000000000) : nxtC.pre [.agg [st s]] = True := eq_true ⟨s, h, rfl⟩
@[simp] theorem nxt_post (s : List UInt8) : nxtC.post [.agg [st s]] = .tup [st (drv s valL []), .agg [st (drv s seedL [])]] := by simp [nxtC, gR]
theorem gbys_pre {s : List UInt8} {n : Int} (h : s.length < 1000000000) (hn : isI64 n) : gbysC.pre [.agg [st s], i64 n] = True := eq_true ⟨s, n, h, hn, rfl⟩
@[simp] theorem gbys_post (s : List UInt8) (n : Int) : gbysC.post [.agg [st s], i64 n] = .tup [st (bysN s n), .agg [st (aftN s n)]] := by simp [gbysC, gR]
theorem inp_len {l : List UInt8} {p : List (List UInt8)} (hl : l.length < 1000000000) (hp : totS p < 1000000000) : (inp l p).length < 3000000000 := by
  have h1 := encS_len (s := l) (by omega)
  have h2 := len_flatMap_encS (l := p) (by omega)
  rw [inp, List.length_append]; omega
theorem totS_take' (l : List (List UInt8)) (i : Nat) : totS (l.take i) ≤ totS l := by
  induction l generalizing i with
  | nil => simp
  | cons x l ih =>
    cases i with
    | zero => simp [totS]
    | succ i => have := ih i; simp only [totS, List.take_succ_cons, List.map_cons, List.sum_cons] at this ⊢; omega
end Go.Abs
end

section
namespace Go.Abs
theorem der_ok (E : Env) (h6 : E.G 6 = macC) (h7 : E.G 7 = bytesC) : ∀ ds, derC.pre ds → ds.length = f_kdf_Derive.n ∧ awp E f_kdf_Derive.body (retQ f_kdf_Derive.res (derC.post ds)) (initSt f_kdf_Derive.wr ds) := by
  rintro _ ⟨k, l, nl, p, hk, hl, hp, rfl⟩
  rw [der_post]
  have h1 := encS_len (s := l) (by omega)
  have hpl := len_le_totS p
  simp (maxSteps := 1000000) (disch := first | omega | (simp; done) | (simp; omega)) [W_id, bys_app, bys_snoc, f_kdf_Derive, f_kdf_Derive_r0, f_kdf_Derive_r1, h7, bytes_pre]
  refine awp_name fun Q0 hQ0 => ?_
  simp (maxSteps := 1000000) (disch := first | omega | (simp; done) | (simp; omega)) [W_id, bys_app, bys_snoc, f_kdf_Derive_r2]
  refine awp_for (fun i : Nat => ⟨[(0, st k), (1, st l), (2, .sl .plain nl p.length (sts p))], [(7, .sl (.own 1) (some false) (inp l (p.take i)).length (bys (inp l (p.take i)))), (12, .sl .plain nl p.length (sts p)), (13, i64 p.length), (14, i64 i)], []⟩) (fun i => p.length - i) (· ≤ p.length) 0 (by simp [inp]) (by simp) fun i hi => ?_
  refine awp_name fun Q1 hQ1 => ?_
  simp (maxSteps := 1000000) (disch := first | omega | (simp; done) | (simp; omega)) [W_id, bys_app, bys_snoc, f_kdf_Derive_l0, f_kdf_Derive_r3]
  rw [awp_cond]
  refine ⟨by simp, fun h => ?_, fun h => ?_⟩ <;> simp at h
  · have h' : i < p.length := by omega
    have hs : inp l (p.take (i + 1)) = inp l (p.take i) ++ encS (atS p i) := by rw [inp, flatMap_take_succ p encS [] h', inp, List.append_assoc]; rfl
    have g0 := atS_mem_tot h'
    have g1 := encS_len (s := atS p i) (by omega)
    have g2 := totS_take' p i
    have g3 := inp_len (l := l) (p := p.take i) hl (by omega)
    generalize hF : inp l (p.take i) = F at *
    generalize hX : atS p i = x at *
    simp (maxSteps := 1000000) (disch := first | omega | (simp; done) | (simp; omega)) [W_id, bys_app, bys_snoc, f_kdf_Derive_r4, f_kdf_Derive_r5, hd_sts, hX, h7, bytes_pre, hQ1]
    refine ⟨by omega, by omega, by omega, i + 1, by omega, by omega, ⟨?_, hs.symm⟩, by simp⟩
    rw [hs, List.length_append]
  · have e : i = p.length := by omega
    subst e
    have g3 := inp_len (l := l) (p := p) hl (by omega)
    simp (maxSteps := 1000000) (disch := first | omega | (simp; done) | (simp; omega)) [W_id, bys_app, bys_snoc, hQ1, hQ0, f_kdf_Derive_r6, h6, mac_pre, drv]
theorem inp_ok (E : Env) (h29 : E.G 29 = rbytesC) : ∀ ds, inpC.pre ds → ds.length = f_custodyref05_Input.n ∧ awp E f_custodyref05_Input.body (retQ f_custodyref05_Input.res (inpC.post ds)) (initSt f_custodyref05_Input.wr ds) := by
  rintro _ ⟨l, nl, p, hl, hp, rfl⟩
  rw [inp_post]
  have h1 := encS_len (s := l) (by omega)
  have hpl := len_le_totS p
  simp (maxSteps := 1000000) (disch := first | omega | (simp; done) | (simp; omega)) [W_id, bys_app, bys_snoc, f_custodyref05_Input, f_custodyref05_Input_r0, f_custodyref05_Input_r1, h29, rbytes_pre]
  refine ⟨by omega, ?_⟩
  refine awp_name fun Q0 hQ0 => ?_
  simp (maxSteps := 1000000) (disch := first | omega | (simp; done) | (simp; omega)) [W_id, bys_app, bys_snoc, f_custodyref05_Input_r2]
  refine awp_for (fun i : Nat => ⟨[(0, st l), (1, .sl .plain nl p.length (sts p))], [(5, .sl (.own 1) (some false) (inp l (p.take i)).length (bys (inp l (p.take i)))), (6, i64 i)], []⟩) (fun i => p.length - i) (· ≤ p.length) 0 (by simp [inp]) (by simp) fun i hi => ?_
  refine awp_name fun Q1 hQ1 => ?_
  simp (maxSteps := 1000000) (disch := first | omega | (simp; done) | (simp; omega)) [W_id, bys_app, bys_snoc, f_custodyref05_Input_l0, f_custodyref05_Input_r3]
  rw [awp_cond]
  refine ⟨by simp, fun h => ?_, fun h => ?_⟩ <;> simp at h
  · have h' : i < p.length := by omega
    have hs : inp l (p.take (i + 1)) = inp l (p.take i) ++ encS (atS p i) := by rw [inp, flatMap_take_succ p encS [] h', inp, List.append_assoc]; rfl
    have g0 := atS_mem_tot h'
    have g1 := encS_len (s := atS p i) (by omega)
    have g2 := totS_take' p i
    have g3 := inp_len (l := l) (p := p.take i) hl (by omega)
    generalize hF : inp l (p.take i) = F at *
    generalize hX : atS p i = x at *
    simp (maxSteps := 1000000) (disch := first | omega | (simp; done) | (simp; omega)) [W_id, bys_app, bys_snoc, f_custodyref05_Input_r4, hd_sts, hX, h29, rbytes_pre, hQ1]
    refine ⟨by omega, by omega, by omega, i + 1, by omega, by omega, ⟨?_, hs.symm⟩, by simp⟩
    rw [hs, List.length_append]
  · have e : i = p.length := by omega
    subst e
    have g3 := inp_len (l := l) (p := p) hl (by omega)
    simp (maxSteps := 1000000) (disch := first | omega | (simp; done) | (simp; omega)) [W_id, bys_app, bys_snoc, hQ1, hQ0, f_custodyref05_Input_r5]
theorem rder_ok (E : Env) (h77 : E.G 77 = inpC) (h18 : E.G 18 = rmacC) : ∀ ds, derC.pre ds → ds.length = f_custodyref05_Derive.n ∧ awp E f_custodyref05_Derive.body (retQ f_custodyref05_Derive.res (derC.post ds)) (initSt f_custodyref05_Derive.wr ds) := by
  rintro _ ⟨k, l, nl, p, hk, hl, hp, rfl⟩
  rw [der_post]
  have g3 := inp_len (l := l) (p := p) hl (by omega)
  simp (maxSteps := 1000000) (disch := first | omega | (simp; done) | (simp; omega)) [W_id, bys_app, bys_snoc, f_custodyref05_Derive, f_custodyref05_Derive_r0, h77, inp_pre, h18, rmac_pre, drv]
theorem nxt_ok (E : Env) (h76 : E.G 76 = derC) : ∀ ds, nxtC.pre ds → ds.length = f_kdf_Random_Next.n ∧ awp E f_kdf_Random_Next.body (retQ f_kdf_Random_Next.res (nxtC.post ds)) (initSt f_kdf_Random_Next.wr ds) := by
  rintro _ ⟨s, hs, rfl⟩
  rw [nxt_post]
  simp (maxSteps := 1000000) (disch := first | omega | (simp; done) | (simp; omega)) [W_id, bys_app, bys_snoc, f_kdf_Random_Next, f_kdf_Random_Next_r0, h76, der_pre0, valL, seedL]
theorem rnxt_ok (E : Env) (h78 : E.G 78 = derC) : ∀ ds, nxtC.pre ds → ds.length = f_custodyref05_Random_Next.n ∧ awp E f_custodyref05_Random_Next.body (retQ f_custodyref05_Random_Next.res (nxtC.post ds)) (initSt f_custodyref05_Random_Next.wr ds) := by
  rintro _ ⟨s, hs, rfl⟩
  rw [nxt_post]
  simp (maxSteps := 1000000) (disch := first | omega | (simp; done) | (simp; omega)) [W_id, bys_app, bys_snoc, f_custodyref05_Random_Next, f_custodyref05_Random_Next_r0, h78, der_pre0, valL, seedL]
theorem pth_take {k : List UInt8} {p : List (List UInt8)} {i : Nat} (h : i < p.length) : pth k (p.take (i + 1)) = drv (pth k (p.take i)) (atS p i) [] := by
  rw [pth, takeS h, List.foldl_append]; rfl
theorem pth_len {k : List UInt8} (hk : k.length < 1000000000) (p : List (List UInt8)) : (pth k p).length < 1000000000 := by
  unfold pth
  induction p generalizing k with
  | nil => exact hk
  | cons x p ih => rw [List.foldl_cons]; exact ih (by rw [drv_len]; omega)
theorem pth_ok (E : Env) (h76 : E.G 76 = derC) : ∀ ds, pthC.pre ds → ds.length = f_kdf_Path.n ∧ awp E f_kdf_Path.body (retQ f_kdf_Path.res (pthC.post ds)) (initSt f_kdf_Path.wr ds) := by
  rintro _ ⟨k, nl, p, hk, hp, rfl⟩
  rw [pth_post]
  have hpl := len_le_totS p
  simp (maxSteps := 1000000) (disch := first | omega | (simp; done) | (simp; omega)) [W_id, bys_app, bys_snoc, f_kdf_Path, f_kdf_Path_r0]
  refine awp_name fun Q0 hQ0 => ?_
  simp (maxSteps := 1000000) (disch := first | omega | (simp; done) | (simp; omega)) [W_id, bys_app, bys_snoc, f_kdf_Path_r1]
  refine awp_for (fun i : Nat => ⟨[(1, .sl .plain nl p.length (sts p))], [(0, st (pth k (p.take i))), (7, .sl .plain nl p.length (sts p)), (8, i64 p.length), (9, i64 i)], []⟩) (fun i => p.length - i) (· ≤ p.length) 0 (by simp [pth]) (by simp) fun i hi => ?_
  refine awp_name fun Q1 hQ1 => ?_
  simp (maxSteps := 1000000) (disch := first | omega | (simp; done) | (simp; omega)) [W_id, bys_app, bys_snoc, f_kdf_Path_l0, f_kdf_Path_r2]
  rw [awp_cond]
  refine ⟨by simp, fun h => ?_, fun h => ?_⟩ <;> simp at h
  · have h' : i < p.length := by omega
    have hs := pth_take (k := k) h'
    have g0 := atS_mem_tot h'
    have g1 := pth_len hk (p.take i)
    generalize hF : pth k (p.take i) = F at *
    generalize hX : atS p i = x at *
    simp (maxSteps := 1000000) (disch := first | omega | (simp; done) | (simp; omega)) [W_id, bys_app, bys_snoc, f_kdf_Path_r3, f_kdf_Path_r4, hd_sts, hX, h76, der_pre0, hQ1]
    exact ⟨by omega, by omega, i + 1, by omega, by omega, hs.symm, by simp⟩
  · have e : i = p.length := by omega
    subst e
    simp (maxSteps := 1000000) (disch := first | omega | (simp; done) | (simp; omega)) [W_id, bys_app, bys_snoc, hQ1, hQ0, f_kdf_Path_r5]
theorem rpth_ok (E : Env) (h78 : E.G 78 = derC) : ∀ ds, pthC.pre ds → ds.length = f_custodyref05_Path.n ∧ awp E f_custodyref05_Path.body (retQ f_custodyref05_Path.res (pthC.post ds)) (initSt f_custodyref05_Path.wr ds) := by
  rintro _ ⟨k, nl, p, hk, hp, rfl⟩
  rw [pth_post]
  have hpl := len_le_totS p
  simp (maxSteps := 1000000) (disch := first | omega | (simp; done) | (simp; omega)) [W_id, bys_app, bys_snoc, f_custodyref05_Path, f_custodyref05_Path_r0, f_custodyref05_Path_r1]
  refine awp_name fun Q0 hQ0 => ?_
  simp (maxSteps := 1000000) (disch := first | omega | (simp; done) | (simp; omega)) [W_id, bys_app, bys_snoc, f_custodyref05_Path_r2]
  refine awp_for (fun i : Nat => ⟨[(0, st k), (1, .sl .plain nl p.length (sts p))], [(5, st (pth k (p.take i))), (6, i64 i)], []⟩) (fun i => p.length - i) (· ≤ p.length) 0 (by simp [pth]) (by simp) fun i hi => ?_
  refine awp_name fun Q1 hQ1 => ?_
  simp (maxSteps := 1000000) (disch := first | omega | (simp; done) | (simp; omega)) [W_id, bys_app, bys_snoc, f_custodyref05_Path_l0, f_custodyref05_Path_r3]
  rw [awp_cond]
  refine ⟨by simp, fun h => ?_, fun h => ?_⟩ <;> simp at h
  · have h' : i < p.length := by omega
    have hs := pth_take (k := k) h'
    have g0 := atS_mem_tot h'
    have g1 := pth_len hk (p.take i)
    generalize hF : pth k (p.take i) = F at *
    generalize hX : atS p i = x at *
    simp (maxSteps := 1000000) (disch := first | omega | (simp; done) | (simp; omega)) [W_id, bys_app, bys_snoc, f_custodyref05_Path_r4, hd_sts, hX, h78, der_pre0, hQ1]
    exact ⟨by omega, by omega, i + 1, by omega, by omega, hs.symm, by simp⟩
  · have e : i = p.length := by omega
    subst e
    simp (maxSteps := 1000000) (disch := first | omega | (simp; done) | (simp; omega)) [W_id, bys_app, bys_snoc, hQ1, hQ0, f_custodyref05_Path_r5]
end Go.Abs
end

section
namespace Go.Abs
def atN (l : List Nat) (i : Nat) : Nat := l.getD i 0
/-! ### Digits -/
def msgD (d : List UInt8) : List Nat := d.flatMap fun b => [b.toNat / 16, b.toNat % 16]
def sumD (d : List UInt8) : Nat := (d.map fun b => (15 - b.toNat / 16) + (15 - b.toNat % 16)).sum
def chkD (s : Nat) : List Nat := [s / 256, s / 16 % 16, s % 16]
def dgt (d : List UInt8) : List Nat := msgD d ++ chkD (sumD d)
theorem msgD_len (d : List UInt8) : (msgD d).length = 2 * d.length := by
  induction d with
  | nil => rfl
  | cons x d ih => simp only [msgD, List.flatMap_cons, List.length_append, List.length_cons, List.length_nil] at ih ⊢; omega
theorem dgt_len {d : List UInt8} (h : d.length = 16) : (dgt d).length = 35 := by simp [dgt, msgD_len, h, chkD]
theorem sumD_le : ∀ d : List UInt8, sumD d ≤ 30 * d.length
  | [] => by simp [sumD]
  | x :: d => by
    have := sumD_le d
    simp only [sumD, List.map_cons, List.sum_cons, List.length_cons] at this ⊢
    omega
theorem msgD_at : ∀ (d : List UInt8) (i : Nat), i < 2 * d.length → atN (msgD d) i = if i % 2 = 0 then (at8 d (i / 2)).toNat / 16 else (at8 d (i / 2)).toNat % 16
  | [], i, h => by simp at h
  | x :: d, 0, _ => by simp [atN, msgD]
  | x :: d, 1, _ => by simp [atN, msgD]
  | x :: d, i + 2, h => by
    have ih := msgD_at d i (by simp at h; omega)
    have e1 : atN (msgD (x :: d)) (i + 2) = atN (msgD d) i := by simp [atN, msgD]
    have e2 : (i + 2) / 2 = i / 2 + 1 := by omega
    rw [e1, ih, e2, at8_succ, show (i + 2) % 2 = i % 2 by omega]
theorem atN_app {a b : List Nat} {i : Nat} (h : i < a.length) : atN (a ++ b) i = atN a i := by simp [atN, List.getD, List.getElem?_append_left h]
theorem atN_app_r {a b : List Nat} {i : Nat} (h : a.length ≤ i) : atN (a ++ b) i = atN b (i - a.length) := by simp [atN, List.getD, List.getElem?_append_right h]
theorem dgt_msg {d : List UInt8} (h : d.length = 16) {i : Nat} (hi : i < 32) : atN (dgt d) i = atN (msgD d) i := atN_app (by rw [msgD_len]; omega)
theorem dgt_chk {d : List UInt8} (h : d.length = 16) : atN (dgt d) 32 = sumD d / 256 ∧ atN (dgt d) 33 = sumD d / 16 % 16 ∧ atN (dgt d) 34 = sumD d % 16 := by
  have hl := msgD_len d
  refine ⟨?_, ?_, ?_⟩ <;> rw [dgt, atN_app_r (by omega), hl, h] <;> rfl
theorem dgt_lt {d : List UInt8} (h : d.length = 16) {i : Nat} (hi : i < 35) : atN (dgt d) i ≤ 15 := by
  have hs := sumD_le d
  have hc := dgt_chk h
  by_cases h1 : i < 32
  · rw [dgt_msg h h1, msgD_at d i (by omega)]
    have := (at8 d (i / 2)).toNat_lt
    split <;> omega
  · have : i = 32 ∨ i = 33 ∨ i = 34 := by omega
    rcases this with rfl | rfl | rfl <;> omega
theorem msg_mono : ∀ (a b : List UInt8), a.length = b.length → (∀ i, i < 2 * a.length → atN (msgD a) i ≤ atN (msgD b) i) → sumD b ≤ sumD a ∧ (sumD a = sumD b → a = b)
  | [], [], _, _ => by simp
  | [], _ :: _, h, _ => by simp at h
  | _ :: _, [], h, _ => by simp at h
  | x :: a, y :: b, hl, h => by
    have e : ∀ (z : UInt8) (c : List UInt8) i, atN (msgD (z :: c)) (i + 2) = atN (msgD c) i := fun z c i => by simp [atN, msgD]
    have e0 : ∀ (z : UInt8) (c : List UInt8), atN (msgD (z :: c)) 0 = z.toNat / 16 := fun z c => by simp [atN, msgD]
    have e1 : ∀ (z : UInt8) (c : List UInt8), atN (msgD (z :: c)) 1 = z.toNat % 16 := fun z c => by simp [atN, msgD]
    obtain ⟨i1, i2⟩ := msg_mono a b (by simpa using hl) fun i hi => by
      have := h (i + 2) (by simp only [List.length_cons]; omega)
      rwa [e, e] at this
    have h0 := h 0 (by simp)
    have h1 := h 1 (by simp only [List.length_cons]; omega)
    rw [e0, e0] at h0
    rw [e1, e1] at h1
    have hx := x.toNat_lt
    have hy := y.toNat_lt
    simp only [sumD, List.map_cons, List.sum_cons] at i1 i2 ⊢
    refine ⟨by omega, fun he => ?_⟩
    have hxy : x = y := by apply UInt8.toNat_inj.1; omega
    rw [hxy, i2 (by omega)]
theorem dgt_mono {a b : List UInt8} (ha : a.length = 16) (hb : b.length = 16) (h : ∀ i, i < 35 → atN (dgt a) i ≤ atN (dgt b) i) : a = b := by
  obtain ⟨h1, h2⟩ := msg_mono a b (by omega) fun i hi => by
    have := h i (by omega)
    rwa [dgt_msg ha (by omega), dgt_msg hb (by omega)] at this
  obtain ⟨a1, a2, a3⟩ := dgt_chk ha
  obtain ⟨b1, b2, b3⟩ := dgt_chk hb
  have c1 := h 32 (by decide)
  have c2 := h 33 (by decide)
  have c3 := h 34 (by decide)
  rw [a1, b1] at c1
  rw [a2, b2] at c2
  rw [a3, b3] at c3
  have sa := sumD_le a
  have sb := sumD_le b
  exact h2 (by omega)

/-! ### Chains -/
def advN (kb : List UInt8) (f : Nat) : Nat → List UInt8 → List UInt8
  | 0, v => v
  | n + 1, v => digOf 4 [kb, encI ((f + n : Nat) : Int), advN kb f n v]
theorem advN_add (kb : List UInt8) (f a : Nat) (v : List UInt8) : ∀ b, advN kb f (a + b) v = advN kb (f + a) b (advN kb f a v)
  | 0 => rfl
  | b + 1 => by rw [← Nat.add_assoc, advN, advN, advN_add kb f a v b, Nat.add_assoc]
theorem advN_len {v : List UInt8} (h : v.length = 16) (kb : List UInt8) (f : Nat) : ∀ n, (advN kb f n v).length = 16
  | 0 => h
  | _ + 1 => digOf_len _ _
def advOk (c f t : Int) : Prop := 0 ≤ c ∧ c ≤ 34 ∧ 0 ≤ f ∧ f ≤ 15 ∧ 0 ≤ t ∧ t ≤ 15
instance (c f t : Int) : Decidable (advOk c f t) := by unfold advOk; exact inferInstance
def adv (c f t : Int) (v : List UInt8) : List UInt8 := if advOk c f t then advN (encI c) f.toNat (t.toNat - f.toNat) v else zeros 16
theorem adv_len {v : List UInt8} (h : v.length = 16) (c f t : Int) : (adv c f t v).length = 16 := by
  unfold adv
  split
  · exact advN_len h _ _ _
  · rfl
theorem adv_two {c f m t : Int} (hc : 0 ≤ c) (hc' : c ≤ 34) (h0 : 0 ≤ f) (h1 : f ≤ m) (h2 : m ≤ t) (h3 : t ≤ 15) (v : List UInt8) : adv c m t (adv c f m v) = adv c f t v := by
  rw [adv, adv, adv, if_pos ⟨hc, hc', by omega, by omega, by omega, by omega⟩, if_pos ⟨hc, hc', by omega, by omega, by omega, by omega⟩, if_pos ⟨hc, hc', by omega, by omega, by omega, by omega⟩]
  have e : t.toNat - f.toNat = (m.toNat - f.toNat) + (t.toNat - m.toNat) := by omega
  rw [e, advN_add, show f.toNat + (m.toNat - f.toNat) = m.toNat by omega]
def chainL : List UInt8 := [99, 104, 97, 105, 110]
@[simp] theorem chainL_len : chainL.length = 5 := rfl
def strt (seed : List UInt8) (k : Nat) : List UInt8 := (drv seed chainL [encI (k : Int)]).take 16
theorem strt_len (s : List UInt8) (k : Nat) : (strt s k).length = 16 := by simp [strt]

/-! ### One value of each chain -/
def catN (f : Nat → List UInt8) : Nat → List UInt8
  | 0 => []
  | n + 1 => catN f n ++ f n
theorem catN_len {f : Nat → List UInt8} : ∀ n, (∀ k, k < n → (f k).length = 16) → (catN f n).length = 16 * n
  | 0, _ => rfl
  | n + 1, h => by
    rw [catN, List.length_append, catN_len n fun k hk => h k (by omega), h n (by omega)]; omega
theorem catN_at {f : Nat → List UInt8} : ∀ n, (∀ k, k < n → (f k).length = 16) → ∀ k, k < n → ((catN f n).drop (16 * k)).take 16 = f k
  | 0, _, k, hk => by omega
  | n + 1, h, k, hk => by
    have hl := catN_len n fun k hk => h k (by omega)
    by_cases e : k = n
    · subst e
      rw [catN, List.drop_append_of_le_length (by omega), List.drop_of_length_le (by omega), List.nil_append, List.take_of_length_le (by rw [h k (by omega)]; omega)]
    · have ih := catN_at n (fun k hk => h k (by omega)) k (by omega)
      rw [catN, List.drop_append_of_le_length (by omega), List.take_append_of_le_length (by rw [List.length_drop]; omega), ih]
theorem catN_congr {f g : Nat → List UInt8} : ∀ n, (∀ k, k < n → f k = g k) → catN f n = catN g n
  | 0, _ => rfl
  | n + 1, h => by rw [catN, catN, catN_congr n fun k hk => h k (by omega), h n (by omega)]
/-- The digits as whole numbers. -/
def dgI (d : List UInt8) : List Int := (dgt d).map Int.ofNat
theorem dgI_len {d : List UInt8} (h : d.length = 16) : (dgI d).length = 35 := by rw [dgI, List.length_map, dgt_len h]
theorem dgI_at (d : List UInt8) (i : Nat) : atI (dgI d) i = (atN (dgt d) i : Int) := by
  simp only [atI, dgI, atN, List.getD, List.getElem?_map]
  cases (dgt d)[i]? <;> rfl
theorem dgI_rng {d : List UInt8} (h : d.length = 16) {i : Nat} (hi : i < 35) : 0 ≤ atI (dgI d) i ∧ atI (dgI d) i ≤ 15 := by
  have := dgt_lt h hi
  rw [dgI_at]; omega
def pubV (s : List UInt8) (k : Nat) : List UInt8 := adv k 0 15 (strt s k)
def sigV (s : List UInt8) (hs : List Int) (k : Nat) : List UInt8 := adv k 0 (atI hs k) (strt s k)
def endV (hs : List Int) (s : List UInt8) (k : Nat) : List UInt8 := adv k (atI hs k) 15 ((s.drop (16 * k)).take 16)
def pubS (s : List UInt8) : List UInt8 := catN (pubV s) 35
def sigS (s d : List UInt8) : List UInt8 := catN (sigV s (dgI d)) 35
def endS (d s : List UInt8) : List UInt8 := catN (endV (dgI d) s) 35
theorem pubV_len (s : List UInt8) (k : Nat) : (pubV s k).length = 16 := adv_len (strt_len _ _) _ _ _
theorem sigV_len (s : List UInt8) (hs : List Int) (k : Nat) : (sigV s hs k).length = 16 := adv_len (strt_len _ _) _ _ _
theorem endV_len (hs : List Int) {s : List UInt8} (h : s.length = 560) {k : Nat} (hk : k < 35) : (endV hs s k).length = 16 := adv_len (by simp; omega) _ _ _
theorem pubS_len (s : List UInt8) : (pubS s).length = 560 := catN_len 35 fun k _ => pubV_len s k
theorem sigS_len (s d : List UInt8) : (sigS s d).length = 560 := catN_len 35 fun k _ => sigV_len s _ k
theorem endS_len (d : List UInt8) {s : List UInt8} (h : s.length = 560) : (endS d s).length = 560 := catN_len 35 fun _ hk => endV_len _ h hk
theorem sigS_at (s d : List UInt8) {k : Nat} (hk : k < 35) : ((sigS s d).drop (16 * k)).take 16 = sigV s (dgI d) k := catN_at 35 (fun k _ => sigV_len s _ k) k hk
theorem endS_sig (s : List UInt8) {d : List UInt8} (hd : d.length = 16) : endS d (sigS s d) = pubS s := by
  refine catN_congr 35 fun k hk => ?_
  have := dgI_rng hd hk
  rw [endV, sigS_at s d hk, sigV, pubV, adv_two (by omega) (by omega) (by omega) (by omega) (by omega) (by omega)]
def recE (s : List UInt8) : Int := if s.length = 560 then 0 else 1
def recD (d s : List UInt8) : List UInt8 := if s.length = 560 then digOf 5 [endS d s] else zeros 16
def pubD (s : List UInt8) : List UInt8 := digOf 5 [pubS s]
theorem recD_len (d s : List UInt8) : (recD d s).length = 16 := by
  unfold recD
  split
  · exact digOf_len _ _
  · rfl
theorem pubD_len (s : List UInt8) : (pubD s).length = 16 := digOf_len _ _
def verB (p d s : List UInt8) : Bool := decide (s.length = 560) && decide (recD d s = p)
theorem ver_sig (s : List UInt8) {d : List UInt8} (hd : d.length = 16) : verB (pubD s) d (sigS s d) = true := by
  simp [verB, recD, sigS_len, endS_sig s hd, pubD]
end Go.Abs
end

section
namespace Go.Abs
def digC (m : Mode) (nl : Option Bool) : Contract := ⟨fun ds => ∃ d : List UInt8, d.length = 16 ∧ ds = [.agg (bys d)], fun ds => .sl m nl 35 (ints (dgI (gBs (gCs (nth ds 0)))))⟩
def leB (a b : Int) : Bool := decide (a ≤ b)
def inB (n m : Int) : Bool := leB 0 n && leB n m
def withinC : Contract := ⟨fun ds => ∃ n m : Int, ds = [i64 n, i64 m], fun ds => bo (inB (asI (nth ds 0)) (asI (nth ds 1)))⟩
def advC : Contract := ⟨fun ds => ∃ (c f t : Int) (v : List UInt8), isI64 c ∧ isI64 f ∧ isI64 t ∧ v.length = 16 ∧ ds = [i64 c, i64 f, i64 t, .agg (bys v)], fun ds => .agg (bys (adv (asI (nth ds 0)) (asI (nth ds 1)) (asI (nth ds 2)) (gBs (gCs (nth ds 3)))))⟩
def strtC : Contract := ⟨fun ds => ∃ (s : List UInt8) (k : Nat), s.length < 1000000000 ∧ k < 35 ∧ ds = [st s, i64 k], fun ds => .agg (bys (strt (gS (nth ds 0)) (asI (nth ds 1)).toNat))⟩
def dig16C : Contract := ⟨fun ds => ∃ s : List UInt8, 16 ≤ s.length ∧ ds = [st s], fun ds => .agg (bys ((gS (nth ds 0)).take 16))⟩
def gE (d : AVal) : AVal := nth (gCs d) 0
def pub1C : Contract := ⟨fun ds => ∃ (k : Nat) (s : List UInt8), k < 35 ∧ s.length < 1000000000 ∧ ds = [i64 k, .ep [st s]], fun ds => .agg (bys (pubV (gS (gE (nth ds 1))) (asI (nth ds 0)).toNat))⟩
def sig1C : Contract := ⟨fun ds => ∃ (k : Nat) (d s : List UInt8) (nl : Option Bool), k < 35 ∧ s.length < 1000000000 ∧ d.length = 16 ∧ ds = [i64 k, .ep [.sl .plain nl 35 (ints (dgI d))], .ep [st s]], fun ds => .agg (bys (sigV (gS (gE (nth ds 2))) (gIs (gCs (gE (nth ds 1)))) (asI (nth ds 0)).toNat))⟩
def rec1C : Contract := ⟨fun ds => ∃ (k : Nat) (d s : List UInt8) (nl : Option Bool), k < 35 ∧ s.length = 560 ∧ d.length = 16 ∧ ds = [i64 k, .ep [st s], .ep [.sl .plain nl 35 (ints (dgI d))]], fun ds => .agg (bys (endV (gIs (gCs (gE (nth ds 2)))) (gS (gE (nth ds 1))) (asI (nth ds 0)).toNat))⟩
def gF (d : AVal) (i : Nat) : AVal := match d with | .fn _ _ y => gE (nth y i) | _ => .undef
def joinPC : Contract := ⟨fun ds => ∃ s : List UInt8, s.length < 1000000000 ∧ ds = [.fn 98 [] [.ep [st s]]], fun ds => st (catN (pubV (gS (gF (nth ds 0) 0))) 35)⟩
def joinSC : Contract := ⟨fun ds => ∃ (d s : List UInt8) (nl : Option Bool), s.length < 1000000000 ∧ d.length = 16 ∧ ds = [.fn 104 [] [.ep [.sl .plain nl 35 (ints (dgI d))], .ep [st s]]], fun ds => st (catN (sigV (gS (gF (nth ds 0) 1)) (gIs (gCs (gF (nth ds 0) 0)))) 35)⟩
def joinRC : Contract := ⟨fun ds => ∃ (d s : List UInt8) (nl : Option Bool), s.length = 560 ∧ d.length = 16 ∧ ds = [.fn 91 [] [.ep [st s], .ep [.sl .plain nl 35 (ints (dgI d))]]], fun ds => st (catN (endV (gIs (gCs (gF (nth ds 0) 1))) (gS (gF (nth ds 0) 0))) 35)⟩
def pubC : Contract := ⟨fun ds => ∃ s : List UInt8, s.length < 1000000000 ∧ ds = [st s], fun ds => .agg (bys (pubD (gS (nth ds 0))))⟩
def sigC : Contract := ⟨fun ds => ∃ s d : List UInt8, s.length < 1000000000 ∧ d.length = 16 ∧ ds = [st s, .agg (bys d)], fun ds => st (sigS (gS (nth ds 0)) (gBs (gCs (nth ds 1))))⟩
def endsC : Contract := ⟨fun ds => ∃ d s : List UInt8, s.length = 560 ∧ d.length = 16 ∧ ds = [.agg (bys d), st s], fun ds => st (endS (gBs (gCs (nth ds 0))) (gS (nth ds 1)))⟩
def recC : Contract := ⟨fun ds => ∃ d s : List UInt8, d.length = 16 ∧ ds = [.agg (bys d), st s], fun ds => .tup [.agg (bys (recD (gBs (gCs (nth ds 0))) (gS (nth ds 1)))), i64 (recE (gS (nth ds 1)))]⟩
def verC : Contract := ⟨fun ds => ∃ p d s : List UInt8, p.length = 16 ∧ d.length = 16 ∧ ds = [.agg (bys p), .agg (bys d), st s], fun ds => bo (verB (gBs (gCs (nth ds 0))) (gBs (gCs (nth ds 1))) (gS (nth ds 2)))⟩

theorem dig_pre {m : Mode} {nl : Option Bool} {d : List UInt8} (h : d.length = 16) : (digC m nl).pre [.agg (bys d)] = True := eq_true ⟨d, h, rfl⟩
@[simp] theorem dig_post (m : Mode) (nl : Option Bool) (d : List UInt8) : (digC m nl).post [.agg (bys d)] = .sl m nl 35 (ints (dgI d)) := by simp [digC]
def digPC : Contract := digC .plain (some false)
def digRC : Contract := digC (.own 1) none
theorem digP_pre {d : List UInt8} (h : d.length = 16) : digPC.pre [.agg (bys d)] = True := dig_pre h
@[simp] theorem digP_post (d : List UInt8) : digPC.post [.agg (bys d)] = .sl .plain (some false) 35 (ints (dgI d)) := dig_post _ _ d
theorem digR_pre {d : List UInt8} (h : d.length = 16) : digRC.pre [.agg (bys d)] = True := dig_pre h
@[simp] theorem digR_post (d : List UInt8) : digRC.post [.agg (bys d)] = .sl (.own 1) none 35 (ints (dgI d)) := dig_post _ _ d
@[simp] theorem within_pre (n m : Int) : withinC.pre [i64 n, i64 m] = True := eq_true ⟨n, m, rfl⟩
@[simp] theorem within_post (n m : Int) : withinC.post [i64 n, i64 m] = bo (inB n m) := by simp [withinC]
theorem leB_T {a b : Int} (h : a ≤ b) : leB a b = true := decide_eq_true h
theorem leB_F {a b : Int} (h : b < a) : leB a b = false := decide_eq_false (by omega)
theorem inB_T {n m : Int} (h : 0 ≤ n) (h' : n ≤ m) : inB n m = true := by rw [inB, leB_T h, leB_T h']; rfl
theorem inB_F {n m : Int} (h : ¬ (0 ≤ n ∧ n ≤ m)) : inB n m = false := by
  unfold inB leB
  rw [Bool.and_eq_false_iff]
  simp only [decide_eq_false_iff_not]
  omega
theorem adv_pre {c f t : Int} {v : List UInt8} (hc : isI64 c) (hf : isI64 f) (ht : isI64 t) (h : v.length = 16) : advC.pre [i64 c, i64 f, i64 t, .agg (bys v)] = True := eq_true ⟨c, f, t, v, hc, hf, ht, h, rfl⟩
@[simp] theorem adv_post (c f t : Int) (v : List UInt8) : advC.post [i64 c, i64 f, i64 t, .agg (bys v)] = .agg (bys (adv c f t v)) := by simp [advC]
theorem strt_pre {s : List UInt8} {k : Nat} (h : s.length < 1000000000) (hk : k < 35) : strtC.pre [st s, i64 k] = True := eq_true ⟨s, k, h, hk, rfl⟩
@[simp] theorem strt_post (s : List UInt8) (k : Nat) : strtC.post [st s, i64 k] = .agg (bys (strt s k)) := by simp [strtC]
theorem dig16_pre {s : List UInt8} (h : 16 ≤ s.length) : dig16C.pre [st s] = True := eq_true ⟨s, h, rfl⟩
@[simp] theorem dig16_post (s : List UInt8) : dig16C.post [st s] = .agg (bys (s.take 16)) := by simp [dig16C]
theorem pub1_pre {k : Nat} {s : List UInt8} (hk : k < 35) (h : s.length < 1000000000) : pub1C.pre [i64 k, .ep [st s]] = True := eq_true ⟨k, s, hk, h, rfl⟩
@[simp] theorem pub1_post (k : Nat) (s : List UInt8) : pub1C.post [i64 k, .ep [st s]] = .agg (bys (pubV s k)) := by simp [pub1C, gE]
theorem sig1_pre {k : Nat} {d s : List UInt8} {nl : Option Bool} (hk : k < 35) (h : s.length < 1000000000) (hd : d.length = 16) : sig1C.pre [i64 k, .ep [.sl .plain nl 35 (ints (dgI d))], .ep [st s]] = True := eq_true ⟨k, d, s, nl, hk, h, hd, rfl⟩
@[simp] theorem sig1_post (k : Nat) (hs : List Int) (s : List UInt8) (nl : Option Bool) : sig1C.post [i64 k, .ep [.sl .plain nl 35 (ints hs)], .ep [st s]] = .agg (bys (sigV s hs k)) := by simp [sig1C, gE]
theorem rec1_pre {k : Nat} {d s : List UInt8} {nl : Option Bool} (hk : k < 35) (h : s.length = 560) (hd : d.length = 16) : rec1C.pre [i64 k, .ep [st s], .ep [.sl .plain nl 35 (ints (dgI d))]] = True := eq_true ⟨k, d, s, nl, hk, h, hd, rfl⟩
@[simp] theorem rec1_post (k : Nat) (hs : List Int) (s : List UInt8) (nl : Option Bool) : rec1C.post [i64 k, .ep [st s], .ep [.sl .plain nl 35 (ints hs)]] = .agg (bys (endV hs s k)) := by simp [rec1C, gE]
theorem joinP_pre {s : List UInt8} (h : s.length < 1000000000) : joinPC.pre [.fn 98 [] [.ep [st s]]] = True := eq_true ⟨s, h, rfl⟩
@[simp] theorem joinP_post (s : List UInt8) : joinPC.post [.fn 98 [] [.ep [st s]]] = st (pubS s) := by simp [joinPC, gE, gF, pubS]
theorem joinS_pre {d s : List UInt8} {nl : Option Bool} (h : s.length < 1000000000) (hd : d.length = 16) : joinSC.pre [.fn 104 [] [.ep [.sl .plain nl 35 (ints (dgI d))], .ep [st s]]] = True := eq_true ⟨d, s, nl, h, hd, rfl⟩
@[simp] theorem joinS_post (d s : List UInt8) (nl : Option Bool) : joinSC.post [.fn 104 [] [.ep [.sl .plain nl 35 (ints (dgI d))], .ep [st s]]] = st (sigS s d) := by simp [joinSC, gE, gF, sigS]
theorem joinR_pre {d s : List UInt8} {nl : Option Bool} (h : s.length = 560) (hd : d.length = 16) : joinRC.pre [.fn 91 [] [.ep [st s], .ep [.sl .plain nl 35 (ints (dgI d))]]] = True := eq_true ⟨d, s, nl, h, hd, rfl⟩
@[simp] theorem joinR_post (d s : List UInt8) (nl : Option Bool) : joinRC.post [.fn 91 [] [.ep [st s], .ep [.sl .plain nl 35 (ints (dgI d))]]] = st (endS d s) := by simp [joinRC, gE, gF, endS]
theorem pub_pre {s : List UInt8} (h : s.length < 1000000000) : pubC.pre [st s] = True := eq_true ⟨s, h, rfl⟩
@[simp] theorem pub_post (s : List UInt8) : pubC.post [st s] = .agg (bys (pubD s)) := by simp [pubC]
theorem sig_pre {s d : List UInt8} (h : s.length < 1000000000) (hd : d.length = 16) : sigC.pre [st s, .agg (bys d)] = True := eq_true ⟨s, d, h, hd, rfl⟩
@[simp] theorem sig_post (s d : List UInt8) : sigC.post [st s, .agg (bys d)] = st (sigS s d) := by simp [sigC]
theorem ends_pre {s d : List UInt8} (h : s.length = 560) (hd : d.length = 16) : endsC.pre [.agg (bys d), st s] = True := eq_true ⟨d, s, h, hd, rfl⟩
@[simp] theorem ends_post (s d : List UInt8) : endsC.post [.agg (bys d), st s] = st (endS d s) := by simp [endsC]
theorem rec_pre {s d : List UInt8} (hd : d.length = 16) : recC.pre [.agg (bys d), st s] = True := eq_true ⟨d, s, hd, rfl⟩
@[simp] theorem rec_post (s d : List UInt8) : recC.post [.agg (bys d), st s] = .tup [.agg (bys (recD d s)), i64 (recE s)] := by simp [recC]
theorem ver_pre {p s d : List UInt8} (hp : p.length = 16) (hd : d.length = 16) : verC.pre [.agg (bys p), .agg (bys d), st s] = True := eq_true ⟨p, d, s, hp, hd, rfl⟩
@[simp] theorem ver_post (p s d : List UInt8) : verC.post [.agg (bys p), .agg (bys d), st s] = bo (verB p d s) := by simp [verC]
attribute [simp] pubV_len sigV_len pubS_len sigS_len recD_len pubD_len strt_len
theorem bldOk2 {id : Nat} {n : Nat} {nl : Option Bool} {l x : List UInt8} {b : Nat} {bb : Option (List AVal)} {o k c : Nat} {xs : List AVal} (hn : n = l.length) (hb : b ≠ id) (hbb : ∃ cs, bb = some cs ∧ o + k * 1 ≤ cs.length) (hk : 0 < k) (hxs : xs = bys x) (h : l.length + k ≤ 140737488355328) : bldOk 2 id (some [.undef, .sl (.own 1) nl n (bys l)]) (some b) bb (.bv b 1 o k c) xs = True :=
  eq_true ⟨nl, l, by rw [hn]; rfl, by simpa using hb, by simpa [okS] using hbb, by simpa [slen] using hk, ⟨x, hxs⟩, by simpa [slen] using h⟩
theorem okArg_fn (bs : List Nat) (bx : Nat → Option (List AVal)) (f : Nat) (x y : List AVal) : okArg bs bx (.fn f x y) = ((∀ v ∈ x, okArg1 bs bx v) ∧ (∀ v ∈ y, okArg1 bs bx v)) := rfl
theorem take_l16 {l : List UInt8} (h : l.length = 16) : l.take 16 = l := by rw [← h, List.take_length]
@[simp] theorem take_z16 : (zeros 16).take 16 = zeros 16 := rfl
theorem tot1 (a : List UInt8) : totS [a] = a.length + 9 := by simp [totS]
theorem tot3 (a b c : List UInt8) : totS [a, b, c] = a.length + b.length + c.length + 27 := by simp [totS]; omega
theorem der_pre1 {k l x : List UInt8} {nl : Option Bool} (hk : k.length < 1000000000) (hl : l.length < 1000000000) (hp : x.length < 900000000) : derC.pre [st k, st l, .sl .plain nl 1 [st x]] = True := der_pre (p := [x]) hk hl (by rw [tot1]; omega) rfl
@[simp] theorem der_post1 (k l x : List UInt8) (nl : Option Bool) : derC.post [st k, st l, .sl .plain nl 1 [st x]] = st (drv k l [x]) := der_post k l nl 1 [x]
theorem of_pre1 {tag : Int} {x : List UInt8} {nl : Option Bool} (hp : x.length < 900000000) : ofC.pre [i64 tag, .sl .plain nl 1 [st x]] = True := of_pre (l := [x]) rfl (by rw [tot1]; omega)
@[simp] theorem of_post1 (tag : Int) (x : List UInt8) (nl : Option Bool) : ofC.post [i64 tag, .sl .plain nl 1 [st x]] = .agg (bys (digOf tag [x])) := of_post tag nl 1 [x]
theorem of_pre3 {tag : Int} {x y z : List UInt8} {nl : Option Bool} (hx : x.length < 900000000) (hy : y.length < 900000000) (hz : z.length < 900000000) : ofC.pre [i64 tag, .sl .plain nl 3 [st x, st y, st z]] = True := of_pre (l := [x, y, z]) rfl (by rw [tot3]; omega)
@[simp] theorem of_post3 (tag : Int) (x y z : List UInt8) (nl : Option Bool) : ofC.post [i64 tag, .sl .plain nl 3 [st x, st y, st z]] = .agg (bys (digOf tag [x, y, z])) := of_post tag nl 3 [x, y, z]
theorem rof_pre1 {tag : Int} {x : List UInt8} {nl : Option Bool} (hp : x.length < 900000000) : rofC.pre [i64 tag, .sl .plain nl 1 [st x]] = True := rof_pre (l := [x]) rfl (by rw [tot1]; omega)
@[simp] theorem rof_post1 (tag : Int) (x : List UInt8) (nl : Option Bool) : rofC.post [i64 tag, .sl .plain nl 1 [st x]] = .agg (bys (digOf tag [x])) := rof_post tag nl 1 [x]
theorem rof_pre3 {tag : Int} {x y z : List UInt8} {nl : Option Bool} (hx : x.length < 900000000) (hy : y.length < 900000000) (hz : z.length < 900000000) : rofC.pre [i64 tag, .sl .plain nl 3 [st x, st y, st z]] = True := rof_pre (l := [x, y, z]) rfl (by rw [tot3]; omega)
@[simp] theorem rof_post3 (tag : Int) (x y z : List UInt8) (nl : Option Bool) : rofC.post [i64 tag, .sl .plain nl 3 [st x, st y, st z]] = .agg (bys (digOf tag [x, y, z])) := rof_post tag nl 3 [x, y, z]
end Go.Abs
end

section
namespace Go.Abs
set_option maxRecDepth 100000
/-- custody wots.Recover = 93; calls hash.Of = 8, wots.Digits = 90, wots.Recover$1 = 91, wots.Recover$1 = 92 -/
def f_wots_Recover_r1 : ACode :=
  .cond (.s 9) (
    .seq (
      .region [4, 5] [.norm [2, 3, 4]] [
        ⟨(some 10), none, .build (bys (zeros 16)) []⟩,
        ⟨none, none, .store (some 16) 4 false (.s 4) (.s 10)⟩,
        ⟨(some 5), none, .mv false (.c (i64 1))⟩]) (
    .ret)) (
    .ghost (.keep [2, 3, 4]) .skip)
def f_wots_Recover_r3 : ACode :=
  .seq (
    .region [4, 5] [.norm [2, 3, 4, 6]] [
      ⟨(some 13), none, .mkfn 91 [] [(.s 3), (.s 6)]⟩,
      ⟨(some 14), none, .call 92 [(.s 13)] [3, 6]⟩,
      ⟨(some 15), none, .buildSl 1 1 [st []] [(0, 1, (.s 14))]⟩,
      ⟨(some 16), none, .call 8 [(.c (i64 5)), (.s 15)] []⟩,
      ⟨none, none, .store (some 16) 4 false (.s 4) (.s 16)⟩,
      ⟨(some 5), none, .mv false (.c (i64 0))⟩]) (
  .ret)
def f_wots_Recover_r2 : ACode :=
  .seq (
    .region [3, 4, 6] [.norm [2, 3, 4, 6]] [
      ⟨(some 11), none, .load (some 16) (some 2) false (.s 2)⟩,
      ⟨(some 12), none, .call 90 [(.s 11)] []⟩,
      ⟨(some 6), none, .alloc 6 [.sl (.own 1) none 0 []]⟩,
      ⟨none, none, .store none 6 true (.s 6) (.s 12)⟩]) (
  f_wots_Recover_r3)
def f_wots_Recover_r0 : ACode :=
  .seq (
    .seq (
      .region [2, 3, 4, 9] [.norm [2, 3, 4]] [
        ⟨(some 7), none, .load none (some 3) false (.s 3)⟩,
        ⟨(some 8), none, .len true (.s 7)⟩,
        ⟨(some 9), none, .bin .neq (.s 8) (.c (i64 560))⟩]) (
    f_wots_Recover_r1)) (
  f_wots_Recover_r2)
def f_wots_Recover : AFun :=
 { n := 2, wr := [], res := [.cell 4 (some 16) 4, .t 5], body :=
    .seq (
      .region [2, 3, 4] [.norm [2, 3, 4]] [
        ⟨(some 2), none, .box 2 (some 16) false (.s 0)⟩,
        ⟨(some 3), none, .box 3 none false (.s 1)⟩,
        ⟨(some 4), none, .alloc 4 (bys (zeros 16))⟩,
        ⟨(some 5), none, .mv false (.c (i64 0))⟩]) (
    f_wots_Recover_r0) }

/-- custody custodyref09.Recover = 95; calls custodyref02.Of = 20, custodyref09.Ends = 94 -/
def f_custodyref09_Recover_r1 : ACode :=
  .cond (.s 8) (
    .seq (
      .region [4, 5] [.norm [2, 4]] [
        ⟨(some 9), none, .build (bys (zeros 16)) []⟩,
        ⟨none, none, .store (some 16) 4 false (.s 4) (.s 9)⟩,
        ⟨(some 5), none, .mv false (.c (i64 1))⟩]) (
    .ret)) (
    .ghost (.keep [2, 4]) .skip)
def f_custodyref09_Recover_r2 : ACode :=
  .seq (
    .region [4, 5] [.norm [2, 4]] [
      ⟨(some 10), none, .load (some 16) (some 2) false (.s 2)⟩,
      ⟨(some 11), none, .mv false (.s 1)⟩,
      ⟨(some 12), none, .call 94 [(.s 10), (.s 11)] []⟩,
      ⟨(some 13), none, .buildSl 1 1 [st []] [(0, 1, (.s 12))]⟩,
      ⟨(some 14), none, .call 20 [(.c (i64 5)), (.s 13)] []⟩,
      ⟨none, none, .store (some 16) 4 false (.s 4) (.s 14)⟩,
      ⟨(some 5), none, .mv false (.c (i64 0))⟩]) (
  .ret)
def f_custodyref09_Recover_r0 : ACode :=
  .seq (
    .seq (
      .region [2, 4, 8] [] [
        ⟨(some 6), none, .mv false (.s 1)⟩,
        ⟨(some 7), none, .len true (.s 6)⟩,
        ⟨(some 8), none, .bin .neq (.s 7) (.c (i64 560))⟩]) (
    f_custodyref09_Recover_r1)) (
  f_custodyref09_Recover_r2)
def f_custodyref09_Recover : AFun :=
 { n := 2, wr := [], res := [.cell 4 (some 16) 4, .t 5], body :=
    .seq (
      .region [2, 4] [.norm [2, 4]] [
        ⟨(some 2), none, .box 2 (some 16) false (.s 0)⟩,
        ⟨(some 4), none, .alloc 4 (bys (zeros 16))⟩,
        ⟨(some 5), none, .mv false (.c (i64 0))⟩]) (
    f_custodyref09_Recover_r0) }

/-- custody custodyref09.Same = 96; calls  -/
def f_custodyref09_Same_r1 : ACode :=
  .cond (.s 10) (
    .seq (
      .region [4] [] [
        ⟨(some 4), none, .mv false (.c (bo false))⟩]) (
    .ret)) (
    .ghost (.keep []) .skip)
def f_custodyref09_Same_r4 : ACode :=
  .cond (.s 14) (
    .ghost (.keep [5]) .skip) (
    .ghost (.keep []) (.exit 0))
def f_custodyref09_Same_r6 : ACode :=
  .cond (.s 25) (
    .seq (
      .region [4] [] [
        ⟨(some 4), none, .mv false (.c (bo false))⟩]) (
    .ret)) (
    .ghost (.keep [5]) .skip)
def f_custodyref09_Same_r5 : ACode :=
  .seq (
    .block 1 (
      .seq (
        .region [5, 25] [] [
          ⟨(some 17), none, .mv false (.s 0)⟩,
          ⟨(some 18), none, .mv false (.s 5)⟩,
          ⟨(some 19), none, .idxSl 1 (.s 17) (.s 18)⟩,
          ⟨(some 20), none, .load none none false (.s 19)⟩,
          ⟨(some 21), none, .mv false (.s 1)⟩,
          ⟨(some 22), none, .mv false (.s 5)⟩,
          ⟨(some 23), none, .idxSl 1 (.s 21) (.s 22)⟩,
          ⟨(some 24), none, .load none none false (.s 23)⟩,
          ⟨(some 25), none, .bin .neq (.s 20) (.s 24)⟩]) (
      f_custodyref09_Same_r6))) (
  .region [5] [] [
    ⟨(some 15), none, .mv false (.s 5)⟩,
    ⟨(some 16), none, .bin .add (.s 15) (.c (i64 1))⟩,
    ⟨(some 5), none, .mv false (.s 16)⟩])
def f_custodyref09_Same_l0 : ACode :=
  .seq (
    .seq (
      .region [5, 14] [] [
        ⟨(some 11), none, .mv false (.s 5)⟩,
        ⟨(some 12), none, .mv false (.s 0)⟩,
        ⟨(some 13), none, .len false (.s 12)⟩,
        ⟨(some 14), none, .bin .lss (.s 11) (.s 13)⟩]) (
    f_custodyref09_Same_r4)) (
  f_custodyref09_Same_r5)
def f_custodyref09_Same_r3 : ACode :=
  .block 0 (
    .loop f_custodyref09_Same_l0)
def f_custodyref09_Same_r7 : ACode :=
  .seq (
    .region [4] [] [
      ⟨(some 4), none, .mv false (.c (bo true))⟩]) (
  .ret)
def f_custodyref09_Same_r2 : ACode :=
  .seq (
    .seq (
      .region [5] [] [
        ⟨(some 5), none, .mv false (.c (i64 0))⟩]) (
    f_custodyref09_Same_r3)) (
  f_custodyref09_Same_r7)
def f_custodyref09_Same_r0 : ACode :=
  .seq (
    .seq (
      .region [10] [] [
        ⟨(some 6), none, .mv false (.s 0)⟩,
        ⟨(some 7), none, .len false (.s 6)⟩,
        ⟨(some 8), none, .mv false (.s 1)⟩,
        ⟨(some 9), none, .len false (.s 8)⟩,
        ⟨(some 10), none, .bin .neq (.s 7) (.s 9)⟩]) (
    f_custodyref09_Same_r1)) (
  f_custodyref09_Same_r2)
def f_custodyref09_Same : AFun :=
 { n := 2, wr := [], res := [.t 4], body :=
    .seq (
      .region [] [] [
        ⟨(some 4), none, .mv false (.c (bo false))⟩]) (
    f_custodyref09_Same_r0) }

/-- custody wots.Digits = 90; calls  -/
def f_wots_Digits_r7 : ACode :=
  .region [1, 3, 4, 7] [.norm [1, 3]] [
    ⟨(some 23), none, .mv false (.s 4)⟩,
    ⟨(some 24), none, .mv false (.s 5)⟩,
    ⟨(some 25), none, .idxArr 35 1 (.s 3) (.s 24)⟩,
    ⟨(some 26), none, .load none (some 3) false (.s 25)⟩,
    ⟨(some 27), none, .bin .sub (.c (i64 15)) (.s 26)⟩,
    ⟨(some 28), none, .bin .add (.s 23) (.s 27)⟩,
    ⟨(some 4), none, .mv false (.s 28)⟩]
def f_wots_Digits_r6 : ACode :=
  .seq (
    .region [1, 3, 4, 5, 7] [.norm [1, 3]] [
      ⟨(some 10), none, .mv false (.s 5)⟩,
      ⟨(some 11), none, .mv false (.s 5)⟩,
      ⟨(some 12), none, .bin .quo (.s 11) (.c (i64 2))⟩,
      ⟨(some 13), none, .idxArr 16 1 (.s 1) (.s 12)⟩,
      ⟨(some 14), none, .load none (some 1) false (.s 13)⟩,
      ⟨(some 15), none, .mv false (.s 5)⟩,
      ⟨(some 16), none, .bin .rem (.s 15) (.c (i64 2))⟩,
      ⟨(some 17), none, .bin .mul (.c (i64 4)) (.s 16)⟩,
      ⟨(some 18), none, .bin .sub (.c (i64 4)) (.s 17)⟩,
      ⟨(some 19), none, .bin .shr (.s 14) (.s 18)⟩,
      ⟨(some 20), none, .toInt .i64 (.s 19)⟩,
      ⟨(some 21), none, .bin .rem (.s 20) (.c (i64 16))⟩,
      ⟨(some 22), none, .idxArr 35 1 (.s 3) (.s 10)⟩,
      ⟨none, none, .store none 3 false (.s 22) (.s 21)⟩]) (
  f_wots_Digits_r7)
def f_wots_Digits_r5 : ACode :=
  .seq (
    .block 1 (
      .seq (
        .region [1, 3, 4, 5, 7] [] [
          ⟨(some 9), none, .mv false (.s 7)⟩,
          ⟨(some 5), none, .mv false (.s 9)⟩]) (
      f_wots_Digits_r6))) (
  .region [1, 3, 4, 7] [] [
    ⟨(some 29), none, .bin .add (.s 7) (.c (i64 1))⟩,
    ⟨(some 7), none, .mv false (.s 29)⟩])
def f_wots_Digits_r4 : ACode :=
  .seq (
    .cond (.s 8) (
      .ghost (.keep [1, 3, 4, 7]) .skip) (
      .ghost (.keep [3, 4]) (.exit 0))) (
  f_wots_Digits_r5)
def f_wots_Digits_l0 : ACode :=
  .seq (
    .region [1, 3, 4, 7, 8] [] [
      ⟨(some 8), none, .bin .lss (.s 7) (.c (i64 32))⟩]) (
  f_wots_Digits_r4)
def f_wots_Digits_r3 : ACode :=
  .block 0 (
    .loop f_wots_Digits_l0)
def f_wots_Digits_r10 : ACode :=
  .cond (.s 31) (
    .ghost (.keep [3, 4, 6]) .skip) (
    .ghost (.keep [3]) (.exit 2))
def f_wots_Digits_r11 : ACode :=
  .seq (
    .block 3 (
      .seq (
        .region [3, 4, 6] [.norm [1, 3]] [
          ⟨(some 34), none, .mv false (.s 6)⟩,
          ⟨(some 35), none, .mv false (.s 4)⟩,
          ⟨(some 36), none, .bin .rem (.s 35) (.c (i64 16))⟩,
          ⟨(some 37), none, .idxArr 35 1 (.s 3) (.s 34)⟩,
          ⟨none, none, .store none 3 false (.s 37) (.s 36)⟩]) (
      .region [3, 4, 6] [] [
        ⟨(some 38), none, .mv false (.s 4)⟩,
        ⟨(some 39), none, .bin .quo (.s 38) (.c (i64 16))⟩,
        ⟨(some 4), none, .mv false (.s 39)⟩]))) (
  .region [3, 4, 6] [] [
    ⟨(some 32), none, .mv false (.s 6)⟩,
    ⟨(some 33), none, .bin .sub (.s 32) (.c (i64 1))⟩,
    ⟨(some 6), none, .mv false (.s 33)⟩])
def f_wots_Digits_l1 : ACode :=
  .seq (
    .seq (
      .region [3, 4, 6, 31] [] [
        ⟨(some 30), none, .mv false (.s 6)⟩,
        ⟨(some 31), none, .bin .geq (.s 30) (.c (i64 32))⟩]) (
    f_wots_Digits_r10)) (
  f_wots_Digits_r11)
def f_wots_Digits_r9 : ACode :=
  .block 2 (
    .loop f_wots_Digits_l1)
def f_wots_Digits_r12 : ACode :=
  .seq (
    .region [2] [.freeze [3]] [
      ⟨(some 40), none, .slArr 35 1 (.s 3) none none none⟩,
      ⟨(some 2), none, .mv true (.s 40)⟩]) (
  .ret)
def f_wots_Digits_r8 : ACode :=
  .seq (
    .seq (
      .region [3, 4, 6] [] [
        ⟨(some 6), none, .mv false (.c (i64 34))⟩]) (
    f_wots_Digits_r9)) (
  f_wots_Digits_r12)
def f_wots_Digits_r2 : ACode :=
  .seq (
    .seq (
      .region [1, 3, 4, 7] [] [
        ⟨(some 7), none, .mv false (.c (i64 0))⟩]) (
    f_wots_Digits_r3)) (
  f_wots_Digits_r8)
def f_wots_Digits_r1 : ACode :=
  .seq (
    .region [1, 3, 4] [] [
      ⟨(some 4), none, .mv false (.c (i64 0))⟩]) (
  f_wots_Digits_r2)
def f_wots_Digits_r0 : ACode :=
  .seq (
    .region [1, 3] [.norm [1, 3]] [
      ⟨(some 3), none, .alloc 3 (List.replicate 35 (i64 0))⟩]) (
  f_wots_Digits_r1)
def f_wots_Digits : AFun :=
 { n := 1, wr := [], res := [.t 2], body :=
    .seq (
      .region [1] [.norm [1]] [
        ⟨(some 1), none, .box 1 (some 16) false (.s 0)⟩,
        ⟨(some 2), none, .mv true (.c (.sl (.own 1) none 0 []))⟩]) (
    f_wots_Digits_r0) }

/-- custody custodyref09.Digits = 97; calls  -/
def f_custodyref09_Digits_r4 : ACode :=
  .cond (.s 9) (
    .ghost (.keep [1, 3, 4, 5]) .skip) (
    .ghost (.keep [3, 4]) (.exit 0))
def f_custodyref09_Digits_r8 : ACode :=
  .region [1, 3, 4, 5] [] [
    ⟨(some 27), none, .mv false (.s 4)⟩,
    ⟨(some 28), none, .bin .add (.s 27) (.c (i64 30))⟩,
    ⟨(some 29), none, .mv false (.s 6)⟩,
    ⟨(some 30), none, .bin .sub (.s 28) (.s 29)⟩,
    ⟨(some 31), none, .mv false (.s 7)⟩,
    ⟨(some 32), none, .bin .sub (.s 30) (.s 31)⟩,
    ⟨(some 4), none, .mv false (.s 32)⟩]
def f_custodyref09_Digits_r7 : ACode :=
  .seq (
    .region [1, 3, 4, 5, 6, 7] [] [
      ⟨(some 22), none, .mv true (.s 3)⟩,
      ⟨(some 23), none, .mv false (.s 6)⟩,
      ⟨(some 24), none, .mv false (.s 7)⟩,
      ⟨(some 25), none, .buildSl 1 2 [i64 0, i64 0] [(0, 1, (.s 23)), (1, 1, (.s 24))]⟩,
      ⟨(some 26), none, .append 1 8 false none none 22 (.s 25)⟩,
      ⟨(some 3), none, .mv true (.s 26)⟩]) (
  f_custodyref09_Digits_r8)
def f_custodyref09_Digits_r6 : ACode :=
  .seq (
    .region [1, 3, 4, 5, 6, 7] [.norm [1]] [
      ⟨(some 17), none, .mv false (.s 5)⟩,
      ⟨(some 18), none, .idxArr 16 1 (.s 1) (.s 17)⟩,
      ⟨(some 19), none, .load none (some 1) false (.s 18)⟩,
      ⟨(some 20), none, .toInt .i64 (.s 19)⟩,
      ⟨(some 21), none, .bin .rem (.s 20) (.c (i64 16))⟩,
      ⟨(some 7), none, .mv false (.s 21)⟩]) (
  f_custodyref09_Digits_r7)
def f_custodyref09_Digits_r5 : ACode :=
  .seq (
    .block 1 (
      .seq (
        .region [1, 3, 4, 5, 6] [.norm [1]] [
          ⟨(some 12), none, .mv false (.s 5)⟩,
          ⟨(some 13), none, .idxArr 16 1 (.s 1) (.s 12)⟩,
          ⟨(some 14), none, .load none (some 1) false (.s 13)⟩,
          ⟨(some 15), none, .toInt .i64 (.s 14)⟩,
          ⟨(some 16), none, .bin .quo (.s 15) (.c (i64 16))⟩,
          ⟨(some 6), none, .mv false (.s 16)⟩]) (
      f_custodyref09_Digits_r6))) (
  .region [1, 3, 4, 5] [] [
    ⟨(some 10), none, .mv false (.s 5)⟩,
    ⟨(some 11), none, .bin .add (.s 10) (.c (i64 1))⟩,
    ⟨(some 5), none, .mv false (.s 11)⟩])
def f_custodyref09_Digits_l0 : ACode :=
  .seq (
    .seq (
      .region [1, 3, 4, 5, 9] [] [
        ⟨(some 8), none, .mv false (.s 5)⟩,
        ⟨(some 9), none, .bin .lss (.s 8) (.c (i64 16))⟩]) (
    f_custodyref09_Digits_r4)) (
  f_custodyref09_Digits_r5)
def f_custodyref09_Digits_r3 : ACode :=
  .block 0 (
    .loop f_custodyref09_Digits_l0)
def f_custodyref09_Digits_r9 : ACode :=
  .seq (
    .region [2] [] [
      ⟨(some 33), none, .mv true (.s 3)⟩,
      ⟨(some 34), none, .mv false (.s 4)⟩,
      ⟨(some 35), none, .bin .quo (.s 34) (.c (i64 256))⟩,
      ⟨(some 36), none, .mv false (.s 4)⟩,
      ⟨(some 37), none, .bin .quo (.s 36) (.c (i64 16))⟩,
      ⟨(some 38), none, .bin .rem (.s 37) (.c (i64 16))⟩,
      ⟨(some 39), none, .mv false (.s 4)⟩,
      ⟨(some 40), none, .bin .rem (.s 39) (.c (i64 16))⟩,
      ⟨(some 41), none, .buildSl 1 3 [i64 0, i64 0, i64 0] [(0, 1, (.s 35)), (1, 1, (.s 38)), (2, 1, (.s 40))]⟩,
      ⟨(some 42), none, .append 1 8 false none none 33 (.s 41)⟩,
      ⟨(some 2), none, .mv true (.s 42)⟩]) (
  .ret)
def f_custodyref09_Digits_r2 : ACode :=
  .seq (
    .seq (
      .region [1, 3, 4, 5] [] [
        ⟨(some 5), none, .mv false (.c (i64 0))⟩]) (
    f_custodyref09_Digits_r3)) (
  f_custodyref09_Digits_r9)
def f_custodyref09_Digits_r1 : ACode :=
  .seq (
    .region [1, 3, 4] [] [
      ⟨(some 4), none, .mv false (.c (i64 0))⟩]) (
  f_custodyref09_Digits_r2)
def f_custodyref09_Digits_r0 : ACode :=
  .seq (
    .region [1, 3] [] [
      ⟨(some 3), none, .mv true (.c (.sl (.own 1) none 0 []))⟩]) (
  f_custodyref09_Digits_r1)
def f_custodyref09_Digits : AFun :=
 { n := 1, wr := [], res := [.t 2], body :=
    .seq (
      .region [1] [.norm [1]] [
        ⟨(some 1), none, .box 1 (some 16) false (.s 0)⟩,
        ⟨(some 2), none, .mv true (.c (.sl (.own 1) none 0 []))⟩]) (
    f_custodyref09_Digits_r0) }

/-- custody wots.Public = 100; calls hash.Of = 8, wots.Public$1 = 98, wots.Public$1 = 99 -/
def f_wots_Public_r0 : ACode :=
  .seq (
    .region [2] [.norm [1, 2]] [
      ⟨(some 3), none, .mkfn 98 [] [(.s 1)]⟩,
      ⟨(some 4), none, .call 99 [(.s 3)] [1]⟩,
      ⟨(some 5), none, .buildSl 1 1 [st []] [(0, 1, (.s 4))]⟩,
      ⟨(some 6), none, .call 8 [(.c (i64 5)), (.s 5)] []⟩,
      ⟨none, none, .store (some 16) 2 false (.s 2) (.s 6)⟩]) (
  .ret)
def f_wots_Public : AFun :=
 { n := 1, wr := [], res := [.cell 2 (some 16) 2], body :=
    .seq (
      .region [1, 2] [.norm [1, 2]] [
        ⟨(some 1), none, .box 1 none false (.s 0)⟩,
        ⟨(some 2), none, .alloc 2 (bys (zeros 16))⟩]) (
    f_wots_Public_r0) }

/-- custody custodyref09.Public = 103; calls custodyref02.Of = 20, custodyref02.Text = 23, custodyref09.Advance = 102, custodyref09.start = 101 -/
def f_custodyref09_Public_r3 : ACode :=
  .cond (.s 6) (
    .ghost (.keep [2, 3, 4]) .skip) (
    .ghost (.keep [2, 3]) (.exit 0))
def f_custodyref09_Public_r4 : ACode :=
  .seq (
    .block 1 (
      .region [2, 3, 4] [] [
        ⟨(some 9), none, .mv false (.s 3)⟩,
        ⟨(some 10), none, .mv false (.s 4)⟩,
        ⟨(some 11), none, .mv false (.s 0)⟩,
        ⟨(some 12), none, .mv false (.s 4)⟩,
        ⟨(some 13), none, .call 101 [(.s 11), (.s 12)] []⟩,
        ⟨(some 14), none, .call 102 [(.s 10), (.c (i64 0)), (.c (i64 15)), (.s 13)] []⟩,
        ⟨(some 15), none, .call 23 [(.s 14)] []⟩,
        ⟨(some 16), none, .bin .add (.s 9) (.s 15)⟩,
        ⟨(some 3), none, .mv false (.s 16)⟩])) (
  .region [2, 3, 4] [] [
    ⟨(some 7), none, .mv false (.s 4)⟩,
    ⟨(some 8), none, .bin .add (.s 7) (.c (i64 1))⟩,
    ⟨(some 4), none, .mv false (.s 8)⟩])
def f_custodyref09_Public_l0 : ACode :=
  .seq (
    .seq (
      .region [2, 3, 4, 6] [] [
        ⟨(some 5), none, .mv false (.s 4)⟩,
        ⟨(some 6), none, .bin .lss (.s 5) (.c (i64 35))⟩]) (
    f_custodyref09_Public_r3)) (
  f_custodyref09_Public_r4)
def f_custodyref09_Public_r2 : ACode :=
  .block 0 (
    .loop f_custodyref09_Public_l0)
def f_custodyref09_Public_r5 : ACode :=
  .seq (
    .region [2] [.norm [2]] [
      ⟨(some 17), none, .mv false (.s 3)⟩,
      ⟨(some 18), none, .buildSl 1 1 [st []] [(0, 1, (.s 17))]⟩,
      ⟨(some 19), none, .call 20 [(.c (i64 5)), (.s 18)] []⟩,
      ⟨none, none, .store (some 16) 2 false (.s 2) (.s 19)⟩]) (
  .ret)
def f_custodyref09_Public_r1 : ACode :=
  .seq (
    .seq (
      .region [2, 3, 4] [] [
        ⟨(some 4), none, .mv false (.c (i64 0))⟩]) (
    f_custodyref09_Public_r2)) (
  f_custodyref09_Public_r5)
def f_custodyref09_Public_r0 : ACode :=
  .seq (
    .region [2, 3] [] [
      ⟨(some 3), none, .mv false (.c (st []))⟩]) (
  f_custodyref09_Public_r1)
def f_custodyref09_Public : AFun :=
 { n := 1, wr := [], res := [.cell 2 (some 16) 2], body :=
    .seq (
      .region [2] [.norm [2]] [
        ⟨(some 2), none, .alloc 2 (bys (zeros 16))⟩]) (
    f_custodyref09_Public_r0) }

/-- custody wots.Sign = 106; calls wots.Digits = 90, wots.Sign$1 = 104, wots.Sign$1 = 105 -/
def f_wots_Sign_r1 : ACode :=
  .seq (
    .region [4] [] [
      ⟨(some 8), none, .mkfn 104 [] [(.s 5), (.s 2)]⟩,
      ⟨(some 9), none, .call 105 [(.s 8)] [2, 5]⟩,
      ⟨(some 4), none, .mv false (.s 9)⟩]) (
  .ret)
def f_wots_Sign_r0 : ACode :=
  .seq (
    .region [2, 5] [.norm [2, 3, 5]] [
      ⟨(some 6), none, .load (some 16) (some 3) false (.s 3)⟩,
      ⟨(some 7), none, .call 90 [(.s 6)] []⟩,
      ⟨(some 5), none, .alloc 5 [.sl (.own 1) none 0 []]⟩,
      ⟨none, none, .store none 5 true (.s 5) (.s 7)⟩]) (
  f_wots_Sign_r1)
def f_wots_Sign : AFun :=
 { n := 2, wr := [], res := [.t 4], body :=
    .seq (
      .region [2, 3] [.norm [2, 3]] [
        ⟨(some 2), none, .box 2 none false (.s 0)⟩,
        ⟨(some 3), none, .box 3 (some 16) false (.s 1)⟩,
        ⟨(some 4), none, .mv false (.c (st []))⟩]) (
    f_wots_Sign_r0) }

/-- custody custodyref09.Sign = 107; calls custodyref02.Text = 23, custodyref09.Advance = 102, custodyref09.Digits = 97, custodyref09.start = 101 -/
def f_custodyref09_Sign_r4 : ACode :=
  .cond (.s 11) (
    .ghost (.keep [5, 6, 7]) .skip) (
    .ghost (.keep [6]) (.exit 0))
def f_custodyref09_Sign_r5 : ACode :=
  .seq (
    .block 1 (
      .region [5, 6, 7] [.norm [3]] [
        ⟨(some 14), none, .mv false (.s 6)⟩,
        ⟨(some 15), none, .mv false (.s 7)⟩,
        ⟨(some 16), none, .mv false (.s 5)⟩,
        ⟨(some 17), none, .mv false (.s 7)⟩,
        ⟨(some 18), none, .idxSl 1 (.s 16) (.s 17)⟩,
        ⟨(some 19), none, .load none none false (.s 18)⟩,
        ⟨(some 20), none, .mv false (.s 0)⟩,
        ⟨(some 21), none, .mv false (.s 7)⟩,
        ⟨(some 22), none, .call 101 [(.s 20), (.s 21)] []⟩,
        ⟨(some 23), none, .call 102 [(.s 15), (.c (i64 0)), (.s 19), (.s 22)] []⟩,
        ⟨(some 24), none, .call 23 [(.s 23)] []⟩,
        ⟨(some 25), none, .bin .add (.s 14) (.s 24)⟩,
        ⟨(some 6), none, .mv false (.s 25)⟩])) (
  .region [5, 6, 7] [] [
    ⟨(some 12), none, .mv false (.s 7)⟩,
    ⟨(some 13), none, .bin .add (.s 12) (.c (i64 1))⟩,
    ⟨(some 7), none, .mv false (.s 13)⟩])
def f_custodyref09_Sign_l0 : ACode :=
  .seq (
    .seq (
      .region [5, 6, 7, 11] [] [
        ⟨(some 10), none, .mv false (.s 7)⟩,
        ⟨(some 11), none, .bin .lss (.s 10) (.c (i64 35))⟩]) (
    f_custodyref09_Sign_r4)) (
  f_custodyref09_Sign_r5)
def f_custodyref09_Sign_r3 : ACode :=
  .block 0 (
    .loop f_custodyref09_Sign_l0)
def f_custodyref09_Sign_r6 : ACode :=
  .seq (
    .region [4] [] [
      ⟨(some 26), none, .mv false (.s 6)⟩,
      ⟨(some 4), none, .mv false (.s 26)⟩]) (
  .ret)
def f_custodyref09_Sign_r2 : ACode :=
  .seq (
    .seq (
      .region [5, 6, 7] [] [
        ⟨(some 7), none, .mv false (.c (i64 0))⟩]) (
    f_custodyref09_Sign_r3)) (
  f_custodyref09_Sign_r6)
def f_custodyref09_Sign_r1 : ACode :=
  .seq (
    .region [5, 6] [] [
      ⟨(some 6), none, .mv false (.c (st []))⟩]) (
  f_custodyref09_Sign_r2)
def f_custodyref09_Sign_r0 : ACode :=
  .seq (
    .region [5] [.norm [3]] [
      ⟨(some 8), none, .load (some 16) (some 3) false (.s 3)⟩,
      ⟨(some 9), none, .call 97 [(.s 8)] []⟩,
      ⟨(some 5), none, .mv true (.s 9)⟩]) (
  f_custodyref09_Sign_r1)
def f_custodyref09_Sign : AFun :=
 { n := 2, wr := [], res := [.t 4], body :=
    .seq (
      .region [3] [.norm [3]] [
        ⟨(some 3), none, .box 3 (some 16) false (.s 1)⟩,
        ⟨(some 4), none, .mv false (.c (st []))⟩]) (
    f_custodyref09_Sign_r0) }

/-- custody wots.Verify = 108; calls wots.Recover = 93 -/
def f_wots_Verify_r1 : ACode :=
  .seq (
    .region [6] [.norm [3, 4, 7]] [
      ⟨(some 15), none, .mv false (.s 8)⟩,
      ⟨(some 16), none, .bin .eql (.s 15) (.c (i64 0))⟩,
      ⟨(some 17), none, .mv false (.s 16)⟩,
      ⟨(some 18), (some (17, true)), .load (some 16) (some 7) false (.s 7)⟩,
      ⟨(some 19), (some (17, true)), .load (some 16) (some 3) false (.s 3)⟩,
      ⟨(some 20), (some (17, true)), .eqF (ks8 16) false (.s 18) (.s 19)⟩,
      ⟨(some 21), none, .pick (.s 17) (.s 20) (.c (bo false))⟩,
      ⟨(some 6), none, .mv false (.s 21)⟩]) (
  .ret)
def f_wots_Verify_r0 : ACode :=
  .seq (
    .region [3, 7, 8] [.norm [3, 4, 7]] [
      ⟨(some 10), none, .load (some 16) (some 4) false (.s 4)⟩,
      ⟨(some 11), none, .mv false (.s 2)⟩,
      ⟨(some 12), none, .call 93 [(.s 10), (.s 11)] []⟩,
      ⟨(some 9), none, .mv false (.s 12)⟩,
      ⟨(some 13), none, .extract 0 (.s 9)⟩,
      ⟨(some 14), none, .extract 1 (.s 9)⟩,
      ⟨(some 7), none, .alloc 7 (bys (zeros 16))⟩,
      ⟨none, none, .store (some 16) 7 false (.s 7) (.s 13)⟩,
      ⟨(some 8), none, .mv false (.s 14)⟩]) (
  f_wots_Verify_r1)
def f_wots_Verify : AFun :=
 { n := 3, wr := [], res := [.t 6], body :=
    .seq (
      .region [3, 4] [.norm [3, 4]] [
        ⟨(some 3), none, .box 3 (some 16) false (.s 0)⟩,
        ⟨(some 4), none, .box 4 (some 16) false (.s 1)⟩,
        ⟨(some 6), none, .mv false (.c (bo false))⟩]) (
    f_wots_Verify_r0) }

/-- custody custodyref09.Verify = 109; calls custodyref09.Recover = 95 -/
def f_custodyref09_Verify_r1 : ACode :=
  .seq (
    .region [6] [.norm [3, 4, 7]] [
      ⟨(some 15), none, .mv false (.s 8)⟩,
      ⟨(some 16), none, .bin .eql (.s 15) (.c (i64 0))⟩,
      ⟨(some 17), none, .mv false (.s 16)⟩,
      ⟨(some 18), (some (17, true)), .load (some 16) (some 7) false (.s 7)⟩,
      ⟨(some 19), (some (17, true)), .load (some 16) (some 3) false (.s 3)⟩,
      ⟨(some 20), (some (17, true)), .eqF (ks8 16) false (.s 18) (.s 19)⟩,
      ⟨(some 21), none, .pick (.s 17) (.s 20) (.c (bo false))⟩,
      ⟨(some 6), none, .mv false (.s 21)⟩]) (
  .ret)
def f_custodyref09_Verify_r0 : ACode :=
  .seq (
    .region [3, 7, 8] [.norm [3, 4, 7]] [
      ⟨(some 10), none, .load (some 16) (some 4) false (.s 4)⟩,
      ⟨(some 11), none, .mv false (.s 2)⟩,
      ⟨(some 12), none, .call 95 [(.s 10), (.s 11)] []⟩,
      ⟨(some 9), none, .mv false (.s 12)⟩,
      ⟨(some 13), none, .extract 0 (.s 9)⟩,
      ⟨(some 14), none, .extract 1 (.s 9)⟩,
      ⟨(some 7), none, .alloc 7 (bys (zeros 16))⟩,
      ⟨none, none, .store (some 16) 7 false (.s 7) (.s 13)⟩,
      ⟨(some 8), none, .mv false (.s 14)⟩]) (
  f_custodyref09_Verify_r1)
def f_custodyref09_Verify : AFun :=
 { n := 3, wr := [], res := [.t 6], body :=
    .seq (
      .region [3, 4] [.norm [3, 4]] [
        ⟨(some 3), none, .box 3 (some 16) false (.s 0)⟩,
        ⟨(some 4), none, .box 4 (some 16) false (.s 1)⟩,
        ⟨(some 6), none, .mv false (.c (bo false))⟩]) (
    f_custodyref09_Verify_r0) }

/-- custody wots.Advance = 111; calls hash.Of = 8, wire.Int = 12, wots.within = 110 -/
def f_wots_Advance_r1 : ACode :=
  .cond (.s 23) (
    .seq (
      .region [8] [.norm [7, 8]] [
        ⟨(some 24), none, .build (bys (zeros 16)) []⟩,
        ⟨none, none, .store (some 16) 8 false (.s 8) (.s 24)⟩]) (
    .ret)) (
    .ghost (.keep [7, 8]) .skip)
def f_wots_Advance_r5 : ACode :=
  .cond (.s 31) (
    .ghost (.keep [7, 8, 9, 10]) .skip) (
    .ghost (.keep [7, 8]) (.exit 0))
def f_wots_Advance_r6 : ACode :=
  .seq (
    .block 1 (
      .region [7, 8, 9, 10] [.norm [7, 8]] [
        ⟨(some 34), none, .mv false (.s 9)⟩,
        ⟨(some 35), none, .mv false (.s 10)⟩,
        ⟨(some 36), none, .call 12 [(.s 35)] []⟩,
        ⟨(some 37), none, .toStr none (.s 36)⟩,
        ⟨(some 38), none, .slArr 16 1 (.s 7) none none none⟩,
        ⟨(some 39), none, .toStr (some 7) (.s 38)⟩,
        ⟨(some 40), none, .buildSl 1 3 [st [], st [], st []] [(0, 1, (.s 34)), (1, 1, (.s 37)), (2, 1, (.s 39))]⟩,
        ⟨(some 41), none, .call 8 [(.c (i64 4)), (.s 40)] []⟩,
        ⟨none, none, .store (some 16) 7 false (.s 7) (.s 41)⟩])) (
  .region [7, 8, 9, 10] [] [
    ⟨(some 32), none, .mv false (.s 10)⟩,
    ⟨(some 33), none, .bin .add (.s 32) (.c (i64 1))⟩,
    ⟨(some 10), none, .mv false (.s 33)⟩])
def f_wots_Advance_l0 : ACode :=
  .seq (
    .seq (
      .region [7, 8, 9, 10, 31] [] [
        ⟨(some 29), none, .mv false (.s 10)⟩,
        ⟨(some 30), none, .mv false (.s 2)⟩,
        ⟨(some 31), none, .bin .lss (.s 29) (.s 30)⟩]) (
    f_wots_Advance_r5)) (
  f_wots_Advance_r6)
def f_wots_Advance_r4 : ACode :=
  .block 0 (
    .loop f_wots_Advance_l0)
def f_wots_Advance_r7 : ACode :=
  .seq (
    .region [8] [.norm [7, 8]] [
      ⟨(some 42), none, .load (some 16) (some 7) false (.s 7)⟩,
      ⟨none, none, .store (some 16) 8 false (.s 8) (.s 42)⟩]) (
  .ret)
def f_wots_Advance_r3 : ACode :=
  .seq (
    .seq (
      .region [7, 8, 9, 10] [] [
        ⟨(some 28), none, .mv false (.s 1)⟩,
        ⟨(some 10), none, .mv false (.s 28)⟩]) (
    f_wots_Advance_r4)) (
  f_wots_Advance_r7)
def f_wots_Advance_r2 : ACode :=
  .seq (
    .region [7, 8, 9] [] [
      ⟨(some 25), none, .mv false (.s 0)⟩,
      ⟨(some 26), none, .call 12 [(.s 25)] []⟩,
      ⟨(some 27), none, .toStr none (.s 26)⟩,
      ⟨(some 9), none, .mv false (.s 27)⟩]) (
  f_wots_Advance_r3)
def f_wots_Advance_r0 : ACode :=
  .seq (
    .seq (
      .region [7, 8, 23] [] [
        ⟨(some 11), none, .mv false (.s 0)⟩,
        ⟨(some 12), none, .call 110 [(.s 11), (.c (i64 34))] []⟩,
        ⟨(some 13), none, .un .not (.s 12)⟩,
        ⟨(some 14), none, .mv false (.s 13)⟩,
        ⟨(some 15), (some (14, false)), .mv false (.s 1)⟩,
        ⟨(some 16), (some (14, false)), .call 110 [(.s 15), (.c (i64 15))] []⟩,
        ⟨(some 17), (some (14, false)), .un .not (.s 16)⟩,
        ⟨(some 18), none, .pick (.s 14) (.c (bo true)) (.s 17)⟩,
        ⟨(some 19), none, .mv false (.s 18)⟩,
        ⟨(some 20), (some (19, false)), .mv false (.s 2)⟩,
        ⟨(some 21), (some (19, false)), .call 110 [(.s 20), (.c (i64 15))] []⟩,
        ⟨(some 22), (some (19, false)), .un .not (.s 21)⟩,
        ⟨(some 23), none, .pick (.s 19) (.c (bo true)) (.s 22)⟩]) (
    f_wots_Advance_r1)) (
  f_wots_Advance_r2)
def f_wots_Advance : AFun :=
 { n := 4, wr := [], res := [.cell 8 (some 16) 8], body :=
    .seq (
      .region [7, 8] [.norm [7, 8]] [
        ⟨(some 7), none, .box 7 (some 16) false (.s 3)⟩,
        ⟨(some 8), none, .alloc 8 (bys (zeros 16))⟩]) (
    f_wots_Advance_r0) }

/-- custody custodyref09.Advance = 102; calls custodyref01.Int = 30, custodyref02.Of = 20, custodyref02.Text = 23 -/
def f_custodyref09_Advance_r1 : ACode :=
  .cond (.s 31) (
    .seq (
      .region [8] [.norm [7, 8]] [
        ⟨(some 32), none, .build (bys (zeros 16)) []⟩,
        ⟨none, none, .store (some 16) 8 false (.s 8) (.s 32)⟩]) (
    .ret)) (
    .ghost (.keep [7, 8]) .skip)
def f_custodyref09_Advance_r4 : ACode :=
  .cond (.s 36) (
    .ghost (.keep [7, 8, 9]) .skip) (
    .ghost (.keep [7, 8]) (.exit 0))
def f_custodyref09_Advance_r5 : ACode :=
  .seq (
    .block 1 (
      .region [7, 8, 9] [.norm [7, 8]] [
        ⟨(some 39), none, .mv false (.s 0)⟩,
        ⟨(some 40), none, .call 30 [(.s 39)] []⟩,
        ⟨(some 41), none, .toStr none (.s 40)⟩,
        ⟨(some 42), none, .mv false (.s 9)⟩,
        ⟨(some 43), none, .call 30 [(.s 42)] []⟩,
        ⟨(some 44), none, .toStr none (.s 43)⟩,
        ⟨(some 45), none, .load (some 16) (some 7) false (.s 7)⟩,
        ⟨(some 46), none, .call 23 [(.s 45)] []⟩,
        ⟨(some 47), none, .buildSl 1 3 [st [], st [], st []] [(0, 1, (.s 41)), (1, 1, (.s 44)), (2, 1, (.s 46))]⟩,
        ⟨(some 48), none, .call 20 [(.c (i64 4)), (.s 47)] []⟩,
        ⟨none, none, .store (some 16) 7 false (.s 7) (.s 48)⟩])) (
  .region [7, 8, 9] [] [
    ⟨(some 37), none, .mv false (.s 9)⟩,
    ⟨(some 38), none, .bin .add (.s 37) (.c (i64 1))⟩,
    ⟨(some 9), none, .mv false (.s 38)⟩])
def f_custodyref09_Advance_l0 : ACode :=
  .seq (
    .seq (
      .region [7, 8, 9, 36] [] [
        ⟨(some 34), none, .mv false (.s 9)⟩,
        ⟨(some 35), none, .mv false (.s 2)⟩,
        ⟨(some 36), none, .bin .lss (.s 34) (.s 35)⟩]) (
    f_custodyref09_Advance_r4)) (
  f_custodyref09_Advance_r5)
def f_custodyref09_Advance_r3 : ACode :=
  .block 0 (
    .loop f_custodyref09_Advance_l0)
def f_custodyref09_Advance_r6 : ACode :=
  .seq (
    .region [8] [.norm [7, 8]] [
      ⟨(some 49), none, .load (some 16) (some 7) false (.s 7)⟩,
      ⟨none, none, .store (some 16) 8 false (.s 8) (.s 49)⟩]) (
  .ret)
def f_custodyref09_Advance_r2 : ACode :=
  .seq (
    .seq (
      .region [7, 8, 9] [] [
        ⟨(some 33), none, .mv false (.s 1)⟩,
        ⟨(some 9), none, .mv false (.s 33)⟩]) (
    f_custodyref09_Advance_r3)) (
  f_custodyref09_Advance_r6)
def f_custodyref09_Advance_r0 : ACode :=
  .seq (
    .seq (
      .region [7, 8, 31] [] [
        ⟨(some 10), none, .mv false (.s 0)⟩,
        ⟨(some 11), none, .bin .lss (.s 10) (.c (i64 0))⟩,
        ⟨(some 12), none, .mv false (.s 11)⟩,
        ⟨(some 13), (some (12, false)), .mv false (.s 0)⟩,
        ⟨(some 14), (some (12, false)), .bin .gtr (.s 13) (.c (i64 34))⟩,
        ⟨(some 15), none, .pick (.s 12) (.c (bo true)) (.s 14)⟩,
        ⟨(some 16), none, .mv false (.s 15)⟩,
        ⟨(some 17), (some (16, false)), .mv false (.s 1)⟩,
        ⟨(some 18), (some (16, false)), .bin .lss (.s 17) (.c (i64 0))⟩,
        ⟨(some 19), none, .pick (.s 16) (.c (bo true)) (.s 18)⟩,
        ⟨(some 20), none, .mv false (.s 19)⟩,
        ⟨(some 21), (some (20, false)), .mv false (.s 1)⟩,
        ⟨(some 22), (some (20, false)), .bin .gtr (.s 21) (.c (i64 15))⟩,
        ⟨(some 23), none, .pick (.s 20) (.c (bo true)) (.s 22)⟩,
        ⟨(some 24), none, .mv false (.s 23)⟩,
        ⟨(some 25), (some (24, false)), .mv false (.s 2)⟩,
        ⟨(some 26), (some (24, false)), .bin .lss (.s 25) (.c (i64 0))⟩,
        ⟨(some 27), none, .pick (.s 24) (.c (bo true)) (.s 26)⟩,
        ⟨(some 28), none, .mv false (.s 27)⟩,
        ⟨(some 29), (some (28, false)), .mv false (.s 2)⟩,
        ⟨(some 30), (some (28, false)), .bin .gtr (.s 29) (.c (i64 15))⟩,
        ⟨(some 31), none, .pick (.s 28) (.c (bo true)) (.s 30)⟩]) (
    f_custodyref09_Advance_r1)) (
  f_custodyref09_Advance_r2)
def f_custodyref09_Advance : AFun :=
 { n := 4, wr := [], res := [.cell 8 (some 16) 8], body :=
    .seq (
      .region [7, 8] [.norm [7, 8]] [
        ⟨(some 7), none, .box 7 (some 16) false (.s 3)⟩,
        ⟨(some 8), none, .alloc 8 (bys (zeros 16))⟩]) (
    f_custodyref09_Advance_r0) }

/-- custody custodyref09.Ends = 94; calls custodyref02.Text = 23, custodyref09.Advance = 102, custodyref09.Digits = 97, custodyref09.digest = 112 -/
def f_custodyref09_Ends_r4 : ACode :=
  .cond (.s 11) (
    .ghost (.keep [5, 6, 7]) .skip) (
    .ghost (.keep [6]) (.exit 0))
def f_custodyref09_Ends_r5 : ACode :=
  .seq (
    .block 1 (
      .region [5, 6, 7] [.norm [2]] [
        ⟨(some 14), none, .mv false (.s 6)⟩,
        ⟨(some 15), none, .mv false (.s 7)⟩,
        ⟨(some 16), none, .mv false (.s 5)⟩,
        ⟨(some 17), none, .mv false (.s 7)⟩,
        ⟨(some 18), none, .idxSl 1 (.s 16) (.s 17)⟩,
        ⟨(some 19), none, .load none none false (.s 18)⟩,
        ⟨(some 20), none, .mv false (.s 1)⟩,
        ⟨(some 21), none, .mv false (.s 7)⟩,
        ⟨(some 22), none, .bin .mul (.c (i64 16)) (.s 21)⟩,
        ⟨(some 23), none, .slStr (.s 20) (some (.s 22)) none⟩,
        ⟨(some 24), none, .call 112 [(.s 23)] []⟩,
        ⟨(some 25), none, .call 102 [(.s 15), (.s 19), (.c (i64 15)), (.s 24)] []⟩,
        ⟨(some 26), none, .call 23 [(.s 25)] []⟩,
        ⟨(some 27), none, .bin .add (.s 14) (.s 26)⟩,
        ⟨(some 6), none, .mv false (.s 27)⟩])) (
  .region [5, 6, 7] [] [
    ⟨(some 12), none, .mv false (.s 7)⟩,
    ⟨(some 13), none, .bin .add (.s 12) (.c (i64 1))⟩,
    ⟨(some 7), none, .mv false (.s 13)⟩])
def f_custodyref09_Ends_l0 : ACode :=
  .seq (
    .seq (
      .region [5, 6, 7, 11] [] [
        ⟨(some 10), none, .mv false (.s 7)⟩,
        ⟨(some 11), none, .bin .lss (.s 10) (.c (i64 35))⟩]) (
    f_custodyref09_Ends_r4)) (
  f_custodyref09_Ends_r5)
def f_custodyref09_Ends_r3 : ACode :=
  .block 0 (
    .loop f_custodyref09_Ends_l0)
def f_custodyref09_Ends_r6 : ACode :=
  .seq (
    .region [4] [] [
      ⟨(some 28), none, .mv false (.s 6)⟩,
      ⟨(some 4), none, .mv false (.s 28)⟩]) (
  .ret)
def f_custodyref09_Ends_r2 : ACode :=
  .seq (
    .seq (
      .region [5, 6, 7] [] [
        ⟨(some 7), none, .mv false (.c (i64 0))⟩]) (
    f_custodyref09_Ends_r3)) (
  f_custodyref09_Ends_r6)
def f_custodyref09_Ends_r1 : ACode :=
  .seq (
    .region [5, 6] [] [
      ⟨(some 6), none, .mv false (.c (st []))⟩]) (
  f_custodyref09_Ends_r2)
def f_custodyref09_Ends_r0 : ACode :=
  .seq (
    .region [5] [.norm [2]] [
      ⟨(some 8), none, .load (some 16) (some 2) false (.s 2)⟩,
      ⟨(some 9), none, .call 97 [(.s 8)] []⟩,
      ⟨(some 5), none, .mv true (.s 9)⟩]) (
  f_custodyref09_Ends_r1)
def f_custodyref09_Ends : AFun :=
 { n := 2, wr := [], res := [.t 4], body :=
    .seq (
      .region [2] [.norm [2]] [
        ⟨(some 2), none, .box 2 (some 16) false (.s 0)⟩,
        ⟨(some 4), none, .mv false (.c (st []))⟩]) (
    f_custodyref09_Ends_r0) }

/-- custody wots.join@custody wots.Public$1 = 99; calls wots.Public$1 = 98 -/
def f_wots_join_wots_Public_1_r5 : ACode :=
  .seq (
    .region [3, 5, 6] [.norm [5, 1000003]] [
      ⟨(some 9), none, .mv false (.s 0)⟩,
      ⟨(some 10), none, .mv false (.s 4)⟩,
      ⟨(some 11), none, .callv 98 (.s 9) [(.s 10)] []⟩,
      ⟨(some 5), none, .alloc 5 (bys (zeros 16))⟩,
      ⟨none, none, .store (some 16) 5 false (.s 5) (.s 11)⟩]) (
  .region [3, 6] [.norm [5, 1000003]] [
    ⟨(some 12), none, .slArr 16 1 (.s 5) none none none⟩,
    ⟨(some 13), none, .bld 2 1000003 (.s 3) (some 5) (.s 12)⟩])
def f_wots_join_wots_Public_1_r4 : ACode :=
  .seq (
    .block 1 (
      .seq (
        .region [3, 4, 6] [] [
          ⟨(some 8), none, .mv false (.s 6)⟩,
          ⟨(some 4), none, .mv false (.s 8)⟩]) (
      f_wots_join_wots_Public_1_r5))) (
  .region [3, 6] [.drop [5]] [
    ⟨(some 14), none, .bin .add (.s 6) (.c (i64 1))⟩,
    ⟨(some 6), none, .mv false (.s 14)⟩])
def f_wots_join_wots_Public_1_r3 : ACode :=
  .seq (
    .cond (.s 7) (
      .ghost (.keep [3, 6]) .skip) (
      .ghost (.keep [3]) (.exit 0))) (
  f_wots_join_wots_Public_1_r4)
def f_wots_join_wots_Public_1_l0 : ACode :=
  .seq (
    .region [3, 6, 7] [] [
      ⟨(some 7), none, .bin .lss (.s 6) (.c (i64 35))⟩]) (
  f_wots_join_wots_Public_1_r3)
def f_wots_join_wots_Public_1_r2 : ACode :=
  .block 0 (
    .loop f_wots_join_wots_Public_1_l0)
def f_wots_join_wots_Public_1_r6 : ACode :=
  .seq (
    .region [2] [.norm [5, 1000003]] [
      ⟨(some 15), none, .bld 3 1000003 (.s 3) none (.c .undef)⟩,
      ⟨(some 2), none, .mv false (.s 15)⟩]) (
  .ret)
def f_wots_join_wots_Public_1_r1 : ACode :=
  .seq (
    .seq (
      .region [3, 6] [] [
        ⟨(some 6), none, .mv false (.c (i64 0))⟩]) (
    f_wots_join_wots_Public_1_r2)) (
  f_wots_join_wots_Public_1_r6)
def f_wots_join_wots_Public_1_r0 : ACode :=
  .seq (
    .region [3] [.norm [1000003]] [
      ⟨(some 3), none, .newB 1000003⟩]) (
  f_wots_join_wots_Public_1_r1)
def f_wots_join_wots_Public_1 : AFun :=
 { n := 1, wr := [], res := [.t 2], body :=
    .seq (
      .region [] [] [
        ⟨(some 2), none, .mv false (.c (st []))⟩]) (
    f_wots_join_wots_Public_1_r0) }

/-- custody wots.join@custody wots.Sign$1 = 105; calls wots.Sign$1 = 104 -/
def f_wots_join_wots_Sign_1_r5 : ACode :=
  .seq (
    .region [3, 5, 6] [.norm [5, 1000003]] [
      ⟨(some 9), none, .mv false (.s 0)⟩,
      ⟨(some 10), none, .mv false (.s 4)⟩,
      ⟨(some 11), none, .callv 104 (.s 9) [(.s 10)] []⟩,
      ⟨(some 5), none, .alloc 5 (bys (zeros 16))⟩,
      ⟨none, none, .store (some 16) 5 false (.s 5) (.s 11)⟩]) (
  .region [3, 6] [.norm [5, 1000003]] [
    ⟨(some 12), none, .slArr 16 1 (.s 5) none none none⟩,
    ⟨(some 13), none, .bld 2 1000003 (.s 3) (some 5) (.s 12)⟩])
def f_wots_join_wots_Sign_1_r4 : ACode :=
  .seq (
    .block 1 (
      .seq (
        .region [3, 4, 6] [] [
          ⟨(some 8), none, .mv false (.s 6)⟩,
          ⟨(some 4), none, .mv false (.s 8)⟩]) (
      f_wots_join_wots_Sign_1_r5))) (
  .region [3, 6] [.drop [5]] [
    ⟨(some 14), none, .bin .add (.s 6) (.c (i64 1))⟩,
    ⟨(some 6), none, .mv false (.s 14)⟩])
def f_wots_join_wots_Sign_1_r3 : ACode :=
  .seq (
    .cond (.s 7) (
      .ghost (.keep [3, 6]) .skip) (
      .ghost (.keep [3]) (.exit 0))) (
  f_wots_join_wots_Sign_1_r4)
def f_wots_join_wots_Sign_1_l0 : ACode :=
  .seq (
    .region [3, 6, 7] [] [
      ⟨(some 7), none, .bin .lss (.s 6) (.c (i64 35))⟩]) (
  f_wots_join_wots_Sign_1_r3)
def f_wots_join_wots_Sign_1_r2 : ACode :=
  .block 0 (
    .loop f_wots_join_wots_Sign_1_l0)
def f_wots_join_wots_Sign_1_r6 : ACode :=
  .seq (
    .region [2] [.norm [5, 1000003]] [
      ⟨(some 15), none, .bld 3 1000003 (.s 3) none (.c .undef)⟩,
      ⟨(some 2), none, .mv false (.s 15)⟩]) (
  .ret)
def f_wots_join_wots_Sign_1_r1 : ACode :=
  .seq (
    .seq (
      .region [3, 6] [] [
        ⟨(some 6), none, .mv false (.c (i64 0))⟩]) (
    f_wots_join_wots_Sign_1_r2)) (
  f_wots_join_wots_Sign_1_r6)
def f_wots_join_wots_Sign_1_r0 : ACode :=
  .seq (
    .region [3] [.norm [1000003]] [
      ⟨(some 3), none, .newB 1000003⟩]) (
  f_wots_join_wots_Sign_1_r1)
def f_wots_join_wots_Sign_1 : AFun :=
 { n := 1, wr := [], res := [.t 2], body :=
    .seq (
      .region [] [] [
        ⟨(some 2), none, .mv false (.c (st []))⟩]) (
    f_wots_join_wots_Sign_1_r0) }

/-- custody wots.join@custody wots.Recover$1 = 92; calls wots.Recover$1 = 91 -/
def f_wots_join_wots_Recover_1_r5 : ACode :=
  .seq (
    .region [3, 5, 6] [.norm [5, 1000003]] [
      ⟨(some 9), none, .mv false (.s 0)⟩,
      ⟨(some 10), none, .mv false (.s 4)⟩,
      ⟨(some 11), none, .callv 91 (.s 9) [(.s 10)] []⟩,
      ⟨(some 5), none, .alloc 5 (bys (zeros 16))⟩,
      ⟨none, none, .store (some 16) 5 false (.s 5) (.s 11)⟩]) (
  .region [3, 6] [.norm [5, 1000003]] [
    ⟨(some 12), none, .slArr 16 1 (.s 5) none none none⟩,
    ⟨(some 13), none, .bld 2 1000003 (.s 3) (some 5) (.s 12)⟩])
def f_wots_join_wots_Recover_1_r4 : ACode :=
  .seq (
    .block 1 (
      .seq (
        .region [3, 4, 6] [] [
          ⟨(some 8), none, .mv false (.s 6)⟩,
          ⟨(some 4), none, .mv false (.s 8)⟩]) (
      f_wots_join_wots_Recover_1_r5))) (
  .region [3, 6] [.drop [5]] [
    ⟨(some 14), none, .bin .add (.s 6) (.c (i64 1))⟩,
    ⟨(some 6), none, .mv false (.s 14)⟩])
def f_wots_join_wots_Recover_1_r3 : ACode :=
  .seq (
    .cond (.s 7) (
      .ghost (.keep [3, 6]) .skip) (
      .ghost (.keep [3]) (.exit 0))) (
  f_wots_join_wots_Recover_1_r4)
def f_wots_join_wots_Recover_1_l0 : ACode :=
  .seq (
    .region [3, 6, 7] [] [
      ⟨(some 7), none, .bin .lss (.s 6) (.c (i64 35))⟩]) (
  f_wots_join_wots_Recover_1_r3)
def f_wots_join_wots_Recover_1_r2 : ACode :=
  .block 0 (
    .loop f_wots_join_wots_Recover_1_l0)
def f_wots_join_wots_Recover_1_r6 : ACode :=
  .seq (
    .region [2] [.norm [5, 1000003]] [
      ⟨(some 15), none, .bld 3 1000003 (.s 3) none (.c .undef)⟩,
      ⟨(some 2), none, .mv false (.s 15)⟩]) (
  .ret)
def f_wots_join_wots_Recover_1_r1 : ACode :=
  .seq (
    .seq (
      .region [3, 6] [] [
        ⟨(some 6), none, .mv false (.c (i64 0))⟩]) (
    f_wots_join_wots_Recover_1_r2)) (
  f_wots_join_wots_Recover_1_r6)
def f_wots_join_wots_Recover_1_r0 : ACode :=
  .seq (
    .region [3] [.norm [1000003]] [
      ⟨(some 3), none, .newB 1000003⟩]) (
  f_wots_join_wots_Recover_1_r1)
def f_wots_join_wots_Recover_1 : AFun :=
 { n := 1, wr := [], res := [.t 2], body :=
    .seq (
      .region [] [] [
        ⟨(some 2), none, .mv false (.c (st []))⟩]) (
    f_wots_join_wots_Recover_1_r0) }

/-- custody wots.Recover$1 = 91; calls wots.Advance = 111 -/
def f_wots_Recover_1_r1 : ACode :=
  .seq (
    .region [4] [.norm [4, 5]] [
      ⟨(some 16), none, .mv false (.s 0)⟩,
      ⟨(some 17), none, .load none none false (.s 2)⟩,
      ⟨(some 18), none, .mv false (.s 0)⟩,
      ⟨(some 19), none, .idxSl 1 (.s 17) (.s 18)⟩,
      ⟨(some 20), none, .load none none false (.s 19)⟩,
      ⟨(some 21), none, .load (some 16) (some 5) false (.s 5)⟩,
      ⟨(some 22), none, .call 111 [(.s 16), (.s 20), (.c (i64 15)), (.s 21)] []⟩,
      ⟨none, none, .store (some 16) 4 false (.s 4) (.s 22)⟩]) (
  .ret)
def f_wots_Recover_1_r0 : ACode :=
  .seq (
    .region [4, 5] [.norm [4, 5]] [
      ⟨(some 6), none, .load none none false (.s 1)⟩,
      ⟨(some 7), none, .mv false (.s 0)⟩,
      ⟨(some 8), none, .bin .mul (.s 7) (.c (i64 16))⟩,
      ⟨(some 9), none, .mv false (.s 0)⟩,
      ⟨(some 10), none, .bin .add (.s 9) (.c (i64 1))⟩,
      ⟨(some 11), none, .bin .mul (.s 10) (.c (i64 16))⟩,
      ⟨(some 12), none, .slStr (.s 6) (some (.s 8)) (some (.s 11))⟩,
      ⟨(some 13), none, .toBytes (.s 12)⟩,
      ⟨(some 14), none, .s2ap 16 (.s 13)⟩,
      ⟨(some 15), none, .load (some 16) none false (.s 14)⟩,
      ⟨(some 5), none, .alloc 5 (bys (zeros 16))⟩,
      ⟨none, none, .store (some 16) 5 false (.s 5) (.s 15)⟩]) (
  f_wots_Recover_1_r1)
def f_wots_Recover_1 : AFun :=
 { n := 3, wr := [], res := [.cell 4 (some 16) 4], body :=
    .seq (
      .region [4] [.norm [4]] [
        ⟨(some 4), none, .alloc 4 (bys (zeros 16))⟩]) (
    f_wots_Recover_1_r0) }

/-- custody wots.Public$1 = 98; calls wots.Advance = 111, wots.start = 113 -/
def f_wots_Public_1_r0 : ACode :=
  .seq (
    .region [3] [.norm [3]] [
      ⟨(some 4), none, .mv false (.s 0)⟩,
      ⟨(some 5), none, .load none none false (.s 1)⟩,
      ⟨(some 6), none, .mv false (.s 0)⟩,
      ⟨(some 7), none, .call 113 [(.s 5), (.s 6)] []⟩,
      ⟨(some 8), none, .call 111 [(.s 4), (.c (i64 0)), (.c (i64 15)), (.s 7)] []⟩,
      ⟨none, none, .store (some 16) 3 false (.s 3) (.s 8)⟩]) (
  .ret)
def f_wots_Public_1 : AFun :=
 { n := 2, wr := [], res := [.cell 3 (some 16) 3], body :=
    .seq (
      .region [3] [.norm [3]] [
        ⟨(some 3), none, .alloc 3 (bys (zeros 16))⟩]) (
    f_wots_Public_1_r0) }

/-- custody wots.start = 113; calls kdf.Derive = 76, wire.Int = 12 -/
def f_wots_start_r0 : ACode :=
  .seq (
    .region [4] [.norm [4]] [
      ⟨(some 5), none, .mv false (.s 0)⟩,
      ⟨(some 6), none, .mv false (.s 1)⟩,
      ⟨(some 7), none, .call 12 [(.s 6)] []⟩,
      ⟨(some 8), none, .toStr none (.s 7)⟩,
      ⟨(some 9), none, .buildSl 1 1 [st []] [(0, 1, (.s 8))]⟩,
      ⟨(some 10), none, .call 76 [(.s 5), (.c (st [99, 104, 97, 105, 110])), (.s 9)] []⟩,
      ⟨(some 11), none, .slStr (.s 10) none (some (.c (i64 16)))⟩,
      ⟨(some 12), none, .toBytes (.s 11)⟩,
      ⟨(some 13), none, .s2ap 16 (.s 12)⟩,
      ⟨(some 14), none, .load (some 16) none false (.s 13)⟩,
      ⟨none, none, .store (some 16) 4 false (.s 4) (.s 14)⟩]) (
  .ret)
def f_wots_start : AFun :=
 { n := 2, wr := [], res := [.cell 4 (some 16) 4], body :=
    .seq (
      .region [4] [.norm [4]] [
        ⟨(some 4), none, .alloc 4 (bys (zeros 16))⟩]) (
    f_wots_start_r0) }

/-- custody custodyref09.start = 101; calls custodyref01.Int = 30, custodyref05.Derive = 78, custodyref09.digest = 112 -/
def f_custodyref09_start_r0 : ACode :=
  .seq (
    .region [4] [.norm [4]] [
      ⟨(some 5), none, .mv false (.s 0)⟩,
      ⟨(some 6), none, .mv false (.s 1)⟩,
      ⟨(some 7), none, .call 30 [(.s 6)] []⟩,
      ⟨(some 8), none, .toStr none (.s 7)⟩,
      ⟨(some 9), none, .buildSl 1 1 [st []] [(0, 1, (.s 8))]⟩,
      ⟨(some 10), none, .call 78 [(.s 5), (.c (st [99, 104, 97, 105, 110])), (.s 9)] []⟩,
      ⟨(some 11), none, .call 112 [(.s 10)] []⟩,
      ⟨none, none, .store (some 16) 4 false (.s 4) (.s 11)⟩]) (
  .ret)
def f_custodyref09_start : AFun :=
 { n := 2, wr := [], res := [.cell 4 (some 16) 4], body :=
    .seq (
      .region [4] [.norm [4]] [
        ⟨(some 4), none, .alloc 4 (bys (zeros 16))⟩]) (
    f_custodyref09_start_r0) }

/-- custody wots.Sign$1 = 104; calls wots.Advance = 111, wots.start = 113 -/
def f_wots_Sign_1_r0 : ACode :=
  .seq (
    .region [4] [.norm [4]] [
      ⟨(some 5), none, .mv false (.s 0)⟩,
      ⟨(some 6), none, .load none none false (.s 1)⟩,
      ⟨(some 7), none, .mv false (.s 0)⟩,
      ⟨(some 8), none, .idxSl 1 (.s 6) (.s 7)⟩,
      ⟨(some 9), none, .load none none false (.s 8)⟩,
      ⟨(some 10), none, .load none none false (.s 2)⟩,
      ⟨(some 11), none, .mv false (.s 0)⟩,
      ⟨(some 12), none, .call 113 [(.s 10), (.s 11)] []⟩,
      ⟨(some 13), none, .call 111 [(.s 5), (.c (i64 0)), (.s 9), (.s 12)] []⟩,
      ⟨none, none, .store (some 16) 4 false (.s 4) (.s 13)⟩]) (
  .ret)
def f_wots_Sign_1 : AFun :=
 { n := 3, wr := [], res := [.cell 4 (some 16) 4], body :=
    .seq (
      .region [4] [.norm [4]] [
        ⟨(some 4), none, .alloc 4 (bys (zeros 16))⟩]) (
    f_wots_Sign_1_r0) }

/-- custody wots.within = 110; calls  -/
def f_wots_within_r0 : ACode :=
  .seq (
    .region [4] [] [
      ⟨(some 5), none, .mv false (.s 0)⟩,
      ⟨(some 6), none, .bin .geq (.s 5) (.c (i64 0))⟩,
      ⟨(some 7), none, .mv false (.s 6)⟩,
      ⟨(some 8), (some (7, true)), .mv false (.s 0)⟩,
      ⟨(some 9), (some (7, true)), .mv false (.s 1)⟩,
      ⟨(some 10), (some (7, true)), .bin .leq (.s 8) (.s 9)⟩,
      ⟨(some 11), none, .pick (.s 7) (.s 10) (.c (bo false))⟩,
      ⟨(some 4), none, .mv false (.s 11)⟩]) (
  .ret)
def f_wots_within : AFun :=
 { n := 2, wr := [], res := [.t 4], body :=
    .seq (
      .region [] [] [
        ⟨(some 4), none, .mv false (.c (bo false))⟩]) (
    f_wots_within_r0) }

/-- custody custodyref09.digest = 112; calls  -/
def f_custodyref09_digest_r3 : ACode :=
  .cond (.s 6) (
    .ghost (.keep [2, 3, 4]) .skip) (
    .ghost (.keep [2, 3]) (.exit 0))
def f_custodyref09_digest_r4 : ACode :=
  .seq (
    .block 1 (
      .region [2, 3, 4] [.norm [2, 3]] [
        ⟨(some 9), none, .mv false (.s 4)⟩,
        ⟨(some 10), none, .mv false (.s 0)⟩,
        ⟨(some 11), none, .mv false (.s 4)⟩,
        ⟨(some 12), none, .idxStr (.s 10) (.s 11)⟩,
        ⟨(some 13), none, .idxArr 16 1 (.s 3) (.s 9)⟩,
        ⟨none, none, .store none 3 false (.s 13) (.s 12)⟩])) (
  .region [2, 3, 4] [] [
    ⟨(some 7), none, .mv false (.s 4)⟩,
    ⟨(some 8), none, .bin .add (.s 7) (.c (i64 1))⟩,
    ⟨(some 4), none, .mv false (.s 8)⟩])
def f_custodyref09_digest_l0 : ACode :=
  .seq (
    .seq (
      .region [2, 3, 4, 6] [] [
        ⟨(some 5), none, .mv false (.s 4)⟩,
        ⟨(some 6), none, .bin .lss (.s 5) (.c (i64 16))⟩]) (
    f_custodyref09_digest_r3)) (
  f_custodyref09_digest_r4)
def f_custodyref09_digest_r2 : ACode :=
  .block 0 (
    .loop f_custodyref09_digest_l0)
def f_custodyref09_digest_r5 : ACode :=
  .seq (
    .region [2] [.norm [2, 3]] [
      ⟨(some 14), none, .load (some 16) (some 3) false (.s 3)⟩,
      ⟨none, none, .store (some 16) 2 false (.s 2) (.s 14)⟩]) (
  .ret)
def f_custodyref09_digest_r1 : ACode :=
  .seq (
    .seq (
      .region [2, 3, 4] [] [
        ⟨(some 4), none, .mv false (.c (i64 0))⟩]) (
    f_custodyref09_digest_r2)) (
  f_custodyref09_digest_r5)
def f_custodyref09_digest_r0 : ACode :=
  .seq (
    .region [2, 3] [.norm [2, 3]] [
      ⟨(some 3), none, .alloc 3 (bys (zeros 16))⟩]) (
  f_custodyref09_digest_r1)
def f_custodyref09_digest : AFun :=
 { n := 1, wr := [], res := [.cell 2 (some 16) 2], body :=
    .seq (
      .region [2] [.norm [2]] [
        ⟨(some 2), none, .alloc 2 (bys (zeros 16))⟩]) (
    f_custodyref09_digest_r0) }

end Go.Abs
end
