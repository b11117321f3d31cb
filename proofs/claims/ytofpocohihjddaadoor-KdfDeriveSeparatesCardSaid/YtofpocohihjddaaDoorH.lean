/- Lemmas: an abstract interpreter, and what the functions compute. -/
import Derived.Test.YtofpocohihjddaaDoorD
import Derived.Test.YtofpocohihjddaaDoorC
import Derived.Test.YtofpocohihjddaaDoorE
set_option linter.unusedSimpArgs false
set_option linter.unusedVariables false
set_option linter.unusedSectionVars false
section
namespace Go.Abs
set_option maxRecDepth 100000
/-- custody kdf.Derive = 76; calls hash.Mac = 6, wire.Bytes = 7 -/
def f_kdf_Derive_r5 : ACode :=
  .region [7, 12, 13, 14] [] [
    ⟨(some 18), none, .mv true (.s 7)⟩,
    ⟨(some 19), none, .mv false (.s 9)⟩,
    ⟨(some 20), none, .call 7 [(.s 19)] []⟩,
    ⟨(some 21), none, .append 1 1 false (some false) none 18 (.s 20)⟩,
    ⟨(some 7), none, .mv true (.s 21)⟩]
def f_kdf_Derive_r4 : ACode :=
  .seq (
    .block 1 (
      .seq (
        .region [7, 9, 12, 13, 14] [] [
          ⟨(some 16), none, .idxSl 1 (.s 12) (.s 14)⟩,
          ⟨(some 17), none, .load none none false (.s 16)⟩,
          ⟨(some 9), none, .mv false (.s 17)⟩]) (
      f_kdf_Derive_r5))) (
  .region [7, 12, 13, 14] [] [
    ⟨(some 22), none, .bin .add (.s 14) (.c (i64 1))⟩,
    ⟨(some 14), none, .mv false (.s 22)⟩])
def f_kdf_Derive_r3 : ACode :=
  .seq (
    .cond (.s 15) (
      .ghost (.keep [7, 12, 13, 14]) .skip) (
      .ghost (.keep [7]) (.exit 0))) (
  f_kdf_Derive_r4)
def f_kdf_Derive_l0 : ACode :=
  .seq (
    .region [7, 12, 13, 14, 15] [] [
      ⟨(some 15), none, .bin .lss (.s 14) (.s 13)⟩]) (
  f_kdf_Derive_r3)
def f_kdf_Derive_r2 : ACode :=
  .block 0 (
    .loop f_kdf_Derive_l0)
def f_kdf_Derive_r6 : ACode :=
  .seq (
    .region [6] [] [
      ⟨(some 23), none, .mv false (.s 0)⟩,
      ⟨(some 24), none, .mv true (.s 7)⟩,
      ⟨(some 25), none, .toStr none (.s 24)⟩,
      ⟨(some 26), none, .call 6 [(.s 23), (.s 25)] []⟩,
      ⟨(some 6), none, .mv false (.s 26)⟩]) (
  .ret)
def f_kdf_Derive_r1 : ACode :=
  .seq (
    .seq (
      .region [7, 12, 13, 14] [] [
        ⟨(some 12), none, .mv false (.s 2)⟩,
        ⟨(some 13), none, .len false (.s 12)⟩,
        ⟨(some 14), none, .mv false (.c (i64 0))⟩]) (
    f_kdf_Derive_r2)) (
  f_kdf_Derive_r6)
def f_kdf_Derive_r0 : ACode :=
  .seq (
    .region [7] [] [
      ⟨(some 10), none, .mv false (.s 1)⟩,
      ⟨(some 11), none, .call 7 [(.s 10)] []⟩,
      ⟨(some 7), none, .mv true (.s 11)⟩]) (
  f_kdf_Derive_r1)
def f_kdf_Derive : AFun :=
 { n := 3, wr := [], res := [.t 6], body :=
    .seq (
      .region [] [] [
        ⟨(some 6), none, .mv false (.c (st []))⟩]) (
    f_kdf_Derive_r0) }

/-- custody custodyref05.Derive = 78; calls custodyref02.Mac = 18, custodyref05.Input = 77 -/
def f_custodyref05_Derive_r0 : ACode :=
  .seq (
    .region [6] [] [
      ⟨(some 7), none, .mv false (.s 0)⟩,
      ⟨(some 8), none, .mv false (.s 1)⟩,
      ⟨(some 9), none, .mv false (.s 2)⟩,
      ⟨(some 10), none, .call 77 [(.s 8), (.s 9)] []⟩,
      ⟨(some 11), none, .call 18 [(.s 7), (.s 10)] []⟩,
      ⟨(some 6), none, .mv false (.s 11)⟩]) (
  .ret)
def f_custodyref05_Derive : AFun :=
 { n := 3, wr := [], res := [.t 6], body :=
    .seq (
      .region [] [] [
        ⟨(some 6), none, .mv false (.c (st []))⟩]) (
    f_custodyref05_Derive_r0) }

/-- custody kdf.Path = 79; calls kdf.Derive = 76 -/
def f_kdf_Path_r4 : ACode :=
  .region [0, 7, 8, 9] [] [
    ⟨(some 13), none, .mv false (.s 0)⟩,
    ⟨(some 14), none, .mv false (.s 6)⟩,
    ⟨(some 15), none, .call 76 [(.s 13), (.s 14), (.c (.lit (.slice none 0 0)))] []⟩,
    ⟨(some 0), none, .mv false (.s 15)⟩]
def f_kdf_Path_r3 : ACode :=
  .seq (
    .block 1 (
      .seq (
        .region [0, 6, 7, 8, 9] [] [
          ⟨(some 11), none, .idxSl 1 (.s 7) (.s 9)⟩,
          ⟨(some 12), none, .load none none false (.s 11)⟩,
          ⟨(some 6), none, .mv false (.s 12)⟩]) (
      f_kdf_Path_r4))) (
  .region [0, 7, 8, 9] [] [
    ⟨(some 16), none, .bin .add (.s 9) (.c (i64 1))⟩,
    ⟨(some 9), none, .mv false (.s 16)⟩])
def f_kdf_Path_r2 : ACode :=
  .seq (
    .cond (.s 10) (
      .ghost (.keep [0, 7, 8, 9]) .skip) (
      .ghost (.keep [0]) (.exit 0))) (
  f_kdf_Path_r3)
def f_kdf_Path_l0 : ACode :=
  .seq (
    .region [0, 7, 8, 9, 10] [] [
      ⟨(some 10), none, .bin .lss (.s 9) (.s 8)⟩]) (
  f_kdf_Path_r2)
def f_kdf_Path_r1 : ACode :=
  .block 0 (
    .loop f_kdf_Path_l0)
def f_kdf_Path_r5 : ACode :=
  .seq (
    .region [4] [] [
      ⟨(some 17), none, .mv false (.s 0)⟩,
      ⟨(some 4), none, .mv false (.s 17)⟩]) (
  .ret)
def f_kdf_Path_r0 : ACode :=
  .seq (
    .seq (
      .region [0, 7, 8, 9] [] [
        ⟨(some 7), none, .mv false (.s 1)⟩,
        ⟨(some 8), none, .len false (.s 7)⟩,
        ⟨(some 9), none, .mv false (.c (i64 0))⟩]) (
    f_kdf_Path_r1)) (
  f_kdf_Path_r5)
def f_kdf_Path : AFun :=
 { n := 2, wr := [0], res := [.t 4], body :=
    .seq (
      .region [0] [] [
        ⟨(some 4), none, .mv false (.c (st []))⟩]) (
    f_kdf_Path_r0) }

/-- custody custodyref05.Path = 80; calls custodyref05.Derive = 78 -/
def f_custodyref05_Path_r3 : ACode :=
  .cond (.s 11) (
    .ghost (.keep [5, 6]) .skip) (
    .ghost (.keep [5]) (.exit 0))
def f_custodyref05_Path_r4 : ACode :=
  .seq (
    .block 1 (
      .region [5, 6] [] [
        ⟨(some 14), none, .mv false (.s 5)⟩,
        ⟨(some 15), none, .mv false (.s 1)⟩,
        ⟨(some 16), none, .mv false (.s 6)⟩,
        ⟨(some 17), none, .idxSl 1 (.s 15) (.s 16)⟩,
        ⟨(some 18), none, .load none none false (.s 17)⟩,
        ⟨(some 19), none, .call 78 [(.s 14), (.s 18), (.c (.lit (.slice none 0 0)))] []⟩,
        ⟨(some 5), none, .mv false (.s 19)⟩])) (
  .region [5, 6] [] [
    ⟨(some 12), none, .mv false (.s 6)⟩,
    ⟨(some 13), none, .bin .add (.s 12) (.c (i64 1))⟩,
    ⟨(some 6), none, .mv false (.s 13)⟩])
def f_custodyref05_Path_l0 : ACode :=
  .seq (
    .seq (
      .region [5, 6, 11] [] [
        ⟨(some 8), none, .mv false (.s 6)⟩,
        ⟨(some 9), none, .mv false (.s 1)⟩,
        ⟨(some 10), none, .len false (.s 9)⟩,
        ⟨(some 11), none, .bin .lss (.s 8) (.s 10)⟩]) (
    f_custodyref05_Path_r3)) (
  f_custodyref05_Path_r4)
def f_custodyref05_Path_r2 : ACode :=
  .block 0 (
    .loop f_custodyref05_Path_l0)
def f_custodyref05_Path_r5 : ACode :=
  .seq (
    .region [4] [] [
      ⟨(some 20), none, .mv false (.s 5)⟩,
      ⟨(some 4), none, .mv false (.s 20)⟩]) (
  .ret)
def f_custodyref05_Path_r1 : ACode :=
  .seq (
    .seq (
      .region [5, 6] [] [
        ⟨(some 6), none, .mv false (.c (i64 0))⟩]) (
    f_custodyref05_Path_r2)) (
  f_custodyref05_Path_r5)
def f_custodyref05_Path_r0 : ACode :=
  .seq (
    .region [5] [] [
      ⟨(some 7), none, .mv false (.s 0)⟩,
      ⟨(some 5), none, .mv false (.s 7)⟩]) (
  f_custodyref05_Path_r1)
def f_custodyref05_Path : AFun :=
 { n := 2, wr := [], res := [.t 4], body :=
    .seq (
      .region [] [] [
        ⟨(some 4), none, .mv false (.c (st []))⟩]) (
    f_custodyref05_Path_r0) }

/-- custody custodyref05.Input = 77; calls custodyref01.Bytes = 29 -/
def f_custodyref05_Input_r3 : ACode :=
  .cond (.s 14) (
    .ghost (.keep [5, 6]) .skip) (
    .ghost (.keep [5]) (.exit 0))
def f_custodyref05_Input_r4 : ACode :=
  .seq (
    .block 1 (
      .region [5, 6] [] [
        ⟨(some 17), none, .mv true (.s 5)⟩,
        ⟨(some 18), none, .mv false (.s 1)⟩,
        ⟨(some 19), none, .mv false (.s 6)⟩,
        ⟨(some 20), none, .idxSl 1 (.s 18) (.s 19)⟩,
        ⟨(some 21), none, .load none none false (.s 20)⟩,
        ⟨(some 22), none, .call 29 [(.s 21)] []⟩,
        ⟨(some 23), none, .append 1 1 false (some false) none 17 (.s 22)⟩,
        ⟨(some 5), none, .mv true (.s 23)⟩])) (
  .region [5, 6] [] [
    ⟨(some 15), none, .mv false (.s 6)⟩,
    ⟨(some 16), none, .bin .add (.s 15) (.c (i64 1))⟩,
    ⟨(some 6), none, .mv false (.s 16)⟩])
def f_custodyref05_Input_l0 : ACode :=
  .seq (
    .seq (
      .region [5, 6, 14] [] [
        ⟨(some 11), none, .mv false (.s 6)⟩,
        ⟨(some 12), none, .mv false (.s 1)⟩,
        ⟨(some 13), none, .len false (.s 12)⟩,
        ⟨(some 14), none, .bin .lss (.s 11) (.s 13)⟩]) (
    f_custodyref05_Input_r3)) (
  f_custodyref05_Input_r4)
def f_custodyref05_Input_r2 : ACode :=
  .block 0 (
    .loop f_custodyref05_Input_l0)
def f_custodyref05_Input_r5 : ACode :=
  .seq (
    .region [4] [] [
      ⟨(some 24), none, .mv true (.s 5)⟩,
      ⟨(some 25), none, .toStr none (.s 24)⟩,
      ⟨(some 4), none, .mv false (.s 25)⟩]) (
  .ret)
def f_custodyref05_Input_r1 : ACode :=
  .seq (
    .seq (
      .region [5, 6] [] [
        ⟨(some 6), none, .mv false (.c (i64 0))⟩]) (
    f_custodyref05_Input_r2)) (
  f_custodyref05_Input_r5)
def f_custodyref05_Input_r0 : ACode :=
  .seq (
    .region [5] [] [
      ⟨(some 7), none, .buildSl 1 0 [] []⟩,
      ⟨(some 8), none, .mv false (.s 0)⟩,
      ⟨(some 9), none, .call 29 [(.s 8)] []⟩,
      ⟨(some 10), none, .append 1 1 false (some false) none 7 (.s 9)⟩,
      ⟨(some 5), none, .mv true (.s 10)⟩]) (
  f_custodyref05_Input_r1)
def f_custodyref05_Input : AFun :=
 { n := 2, wr := [], res := [.t 4], body :=
    .seq (
      .region [] [] [
        ⟨(some 4), none, .mv false (.c (st []))⟩]) (
    f_custodyref05_Input_r0) }

/-- (custody kdf.Random).Next = 75; calls kdf.Derive = 76 -/
def f_kdf_Random_Next_r0 : ACode :=
  .seq (
    .region [2, 3] [.norm [1, 3]] [
      ⟨(some 4), none, .fieldAddr 0 (.s 1)⟩,
      ⟨(some 5), none, .load none (some 1) false (.s 4)⟩,
      ⟨(some 6), none, .call 76 [(.s 5), (.c (st [118, 97, 108, 117, 101])), (.c (.lit (.slice none 0 0)))] []⟩,
      ⟨(some 7), none, .fieldAddr 0 (.s 1)⟩,
      ⟨(some 8), none, .load none (some 1) false (.s 7)⟩,
      ⟨(some 9), none, .call 76 [(.s 8), (.c (st [115, 101, 101, 100])), (.c (.lit (.slice none 0 0)))] []⟩,
      ⟨(some 10), none, .build [st []] [(0, 1, (.s 9))]⟩,
      ⟨(some 2), none, .mv false (.s 6)⟩,
      ⟨none, none, .store (some 1) 3 false (.s 3) (.s 10)⟩]) (
  .ret)
def f_kdf_Random_Next : AFun :=
 { n := 1, wr := [], res := [.t 2, .cell 3 (some 1) 3], body :=
    .seq (
      .region [1, 3] [.norm [1, 3]] [
        ⟨(some 1), none, .box 1 (some 1) false (.s 0)⟩,
        ⟨(some 2), none, .mv false (.c (st []))⟩,
        ⟨(some 3), none, .alloc 3 [st []]⟩]) (
    f_kdf_Random_Next_r0) }

/-- (custody custodyref05.Random).Next = 81; calls custodyref05.Derive = 78 -/
def f_custodyref05_Random_Next_r0 : ACode :=
  .seq (
    .region [2, 3] [.norm [1, 3]] [
      ⟨(some 4), none, .fieldAddr 0 (.s 1)⟩,
      ⟨(some 5), none, .load none (some 1) false (.s 4)⟩,
      ⟨(some 6), none, .call 78 [(.s 5), (.c (st [118, 97, 108, 117, 101])), (.c (.lit (.slice none 0 0)))] []⟩,
      ⟨(some 7), none, .fieldAddr 0 (.s 1)⟩,
      ⟨(some 8), none, .load none (some 1) false (.s 7)⟩,
      ⟨(some 9), none, .call 78 [(.s 8), (.c (st [115, 101, 101, 100])), (.c (.lit (.slice none 0 0)))] []⟩,
      ⟨(some 10), none, .build [st []] [(0, 1, (.s 9))]⟩,
      ⟨(some 2), none, .mv false (.s 6)⟩,
      ⟨none, none, .store (some 1) 3 false (.s 3) (.s 10)⟩]) (
  .ret)
def f_custodyref05_Random_Next : AFun :=
 { n := 1, wr := [], res := [.t 2, .cell 3 (some 1) 3], body :=
    .seq (
      .region [1, 3] [.norm [1, 3]] [
        ⟨(some 1), none, .box 1 (some 1) false (.s 0)⟩,
        ⟨(some 2), none, .mv false (.c (st []))⟩,
        ⟨(some 3), none, .alloc 3 [st []]⟩]) (
    f_custodyref05_Random_Next_r0) }

/-- (custody kdf.Random).Bytes = 74; calls kdf.Random).values = 73 -/
def f_kdf_Random_Bytes_r1 : ACode :=
  .cond (.s 15) (
    .seq (
      .region [4, 5] [.norm [2, 3, 5]] [
        ⟨(some 16), none, .load (some 1) (some 2) false (.s 2)⟩,
        ⟨(some 4), none, .mv false (.c (st []))⟩,
        ⟨none, none, .store (some 1) 5 false (.s 5) (.s 16)⟩]) (
    .ret)) (
    .ghost (.keep [2, 3, 5]) .skip)
def f_kdf_Random_Bytes_r8 : ACode :=
  .cond (.s 34) (
    .ghost (.keep [3, 5, 6, 7]) (.exit 0)) (
    .ghost (.keep [3, 5, 6, 7]) (.ghost (.drop [9]) .skip))
def f_kdf_Random_Bytes_r7 : ACode :=
  .seq (
    .region [3, 5, 6, 7, 34] [.norm [2, 3, 5, 7, 9, 1000006]] [
      ⟨(some 32), none, .bld 0 1000006 (.s 6) none (.c .undef)⟩,
      ⟨(some 33), none, .load none (some 3) false (.s 3)⟩,
      ⟨(some 34), none, .bin .eql (.s 32) (.s 33)⟩]) (
  f_kdf_Random_Bytes_r8)
def f_kdf_Random_Bytes_r6 : ACode :=
  .seq (
    .region [3, 5, 6, 7] [.norm [2, 3, 5, 7, 9, 1000006]] [
      ⟨(some 31), none, .load (some 1) (some 9) false (.s 9)⟩,
      ⟨none, none, .store (some 1) 7 false (.s 7) (.s 31)⟩]) (
  f_kdf_Random_Bytes_r7)
def f_kdf_Random_Bytes_a0 : ACode :=
  .seq (
    .region [3, 5, 6, 7, 8, 21] [] [
      ⟨(some 8), none, .mv false (.s 20)⟩]) (
  .region [3, 5, 6, 7, 8, 9] [.norm [2, 3, 5, 7, 9, 1000006]] [
    ⟨(some 9), none, .alloc 9 [st []]⟩,
    ⟨none, none, .store (some 1) 9 false (.s 9) (.s 21)⟩])
def f_kdf_Random_Bytes_b0 : ACode :=
  .block 1 (
    .seq (
      .region [3, 5, 6, 7, 9] [.norm [2, 3, 5, 7, 9, 1000006]] [
        ⟨(some 22), none, .mv false (.s 8)⟩,
        ⟨(some 23), none, .mv false (.s 8)⟩,
        ⟨(some 24), none, .len true (.s 23)⟩,
        ⟨(some 25), none, .load none (some 3) false (.s 3)⟩,
        ⟨(some 26), none, .bld 0 1000006 (.s 6) none (.c .undef)⟩,
        ⟨(some 27), none, .bin .sub (.s 25) (.s 26)⟩,
        ⟨(some 28), none, .min2 (.s 24) (.s 27)⟩,
        ⟨(some 29), none, .slStr (.s 22) none (some (.s 28))⟩,
        ⟨(some 30), none, .bld 1 1000006 (.s 6) none (.s 29)⟩]) (
    f_kdf_Random_Bytes_r6))
def f_kdf_Random_Bytes_r5 : ACode :=
  .block 0 (
    .range 73 (.s 19) [3, 5, 6, 7] [20, 21] (
  f_kdf_Random_Bytes_a0) (
  f_kdf_Random_Bytes_b0))
def f_kdf_Random_Bytes_r9 : ACode :=
  .seq (
    .region [4, 5] [.norm [2, 3, 5, 7, 9, 1000006]] [
      ⟨(some 35), none, .bld 3 1000006 (.s 6) none (.c .undef)⟩,
      ⟨(some 36), none, .load (some 1) (some 7) false (.s 7)⟩,
      ⟨(some 4), none, .mv false (.s 35)⟩,
      ⟨none, none, .store (some 1) 5 false (.s 5) (.s 36)⟩]) (
  .ret)
def f_kdf_Random_Bytes_r4 : ACode :=
  .seq (
    .seq (
      .region [3, 5, 6, 7, 19] [.norm [2, 3, 5, 7, 1000006]] [
        ⟨(some 18), none, .load (some 1) (some 2) false (.s 2)⟩,
        ⟨(some 19), none, .mkfn 73 [(.s 18)] []⟩]) (
    f_kdf_Random_Bytes_r5)) (
  f_kdf_Random_Bytes_r9)
def f_kdf_Random_Bytes_r3 : ACode :=
  .seq (
    .region [2, 3, 5, 6, 7] [.norm [2, 3, 5, 7, 1000006]] [
      ⟨(some 17), none, .load (some 1) (some 2) false (.s 2)⟩,
      ⟨(some 7), none, .alloc 7 [st []]⟩,
      ⟨none, none, .store (some 1) 7 false (.s 7) (.s 17)⟩]) (
  f_kdf_Random_Bytes_r4)
def f_kdf_Random_Bytes_r2 : ACode :=
  .seq (
    .region [2, 3, 5, 6] [.norm [2, 3, 5, 1000006]] [
      ⟨(some 6), none, .newB 1000006⟩]) (
  f_kdf_Random_Bytes_r3)
def f_kdf_Random_Bytes_r0 : ACode :=
  .seq (
    .seq (
      .region [2, 3, 5, 15] [.norm [2, 3, 5]] [
        ⟨(some 10), none, .load none (some 3) false (.s 3)⟩,
        ⟨(some 11), none, .bin .leq (.s 10) (.c (i64 0))⟩,
        ⟨(some 12), none, .mv false (.s 11)⟩,
        ⟨(some 13), (some (12, false)), .load none (some 3) false (.s 3)⟩,
        ⟨(some 14), (some (12, false)), .bin .gtr (.s 13) (.c (i64 8000))⟩,
        ⟨(some 15), none, .pick (.s 12) (.c (bo true)) (.s 14)⟩]) (
    f_kdf_Random_Bytes_r1)) (
  f_kdf_Random_Bytes_r2)
def f_kdf_Random_Bytes : AFun :=
 { n := 2, wr := [], res := [.t 4, .cell 5 (some 1) 5], body :=
    .seq (
      .region [2, 3, 5] [.norm [2, 3, 5]] [
        ⟨(some 2), none, .box 2 (some 1) false (.s 0)⟩,
        ⟨(some 3), none, .box 3 none false (.s 1)⟩,
        ⟨(some 4), none, .mv false (.c (st []))⟩,
        ⟨(some 5), none, .alloc 5 [st []]⟩]) (
    f_kdf_Random_Bytes_r0) }

/-- (custody custodyref05.Random).Bytes = 82; calls custodyref05.Random).Next = 81 -/
def f_custodyref05_Random_Bytes_r1 : ACode :=
  .cond (.s 15) (
    .seq (
      .region [4, 5] [.norm [2, 5]] [
        ⟨(some 16), none, .load (some 1) (some 2) false (.s 2)⟩,
        ⟨(some 4), none, .mv false (.c (st []))⟩,
        ⟨none, none, .store (some 1) 5 false (.s 5) (.s 16)⟩]) (
    .ret)) (
    .ghost (.keep [2, 5]) .skip)
def f_custodyref05_Random_Bytes_r5 : ACode :=
  .cond (.s 21) (
    .ghost (.keep [5, 6, 7]) .skip) (
    .ghost (.keep [5, 6, 7]) (.exit 0))
def f_custodyref05_Random_Bytes_r7 : ACode :=
  .seq (
    .region [5, 6, 7, 9] [] [
      ⟨(some 27), none, .mv false (.s 6)⟩,
      ⟨(some 28), none, .mv false (.s 8)⟩,
      ⟨(some 29), none, .bin .add (.s 27) (.s 28)⟩,
      ⟨(some 6), none, .mv false (.s 29)⟩]) (
  .region [5, 6, 7] [.norm [2, 5, 7, 9], .drop [9]] [
    ⟨(some 30), none, .load (some 1) (some 9) false (.s 9)⟩,
    ⟨none, none, .store (some 1) 7 false (.s 7) (.s 30)⟩])
def f_custodyref05_Random_Bytes_r6 : ACode :=
  .block 1 (
    .seq (
      .region [5, 6, 7, 8, 9] [.norm [2, 5, 7, 9]] [
        ⟨(some 23), none, .load (some 1) (some 7) false (.s 7)⟩,
        ⟨(some 24), none, .call 81 [(.s 23)] []⟩,
        ⟨(some 22), none, .mv false (.s 24)⟩,
        ⟨(some 25), none, .extract 0 (.s 22)⟩,
        ⟨(some 26), none, .extract 1 (.s 22)⟩,
        ⟨(some 9), none, .alloc 9 [st []]⟩,
        ⟨(some 8), none, .mv false (.s 25)⟩,
        ⟨none, none, .store (some 1) 9 false (.s 9) (.s 26)⟩]) (
    f_custodyref05_Random_Bytes_r7))
def f_custodyref05_Random_Bytes_l0 : ACode :=
  .seq (
    .seq (
      .region [5, 6, 7, 21] [] [
        ⟨(some 18), none, .mv false (.s 6)⟩,
        ⟨(some 19), none, .len true (.s 18)⟩,
        ⟨(some 20), none, .mv false (.s 1)⟩,
        ⟨(some 21), none, .bin .lss (.s 19) (.s 20)⟩]) (
    f_custodyref05_Random_Bytes_r5)) (
  f_custodyref05_Random_Bytes_r6)
def f_custodyref05_Random_Bytes_r8 : ACode :=
  .seq (
    .region [4, 5] [.norm [2, 5, 7, 9]] [
      ⟨(some 31), none, .mv false (.s 6)⟩,
      ⟨(some 32), none, .mv false (.s 1)⟩,
      ⟨(some 33), none, .slStr (.s 31) none (some (.s 32))⟩,
      ⟨(some 34), none, .load (some 1) (some 7) false (.s 7)⟩,
      ⟨(some 4), none, .mv false (.s 33)⟩,
      ⟨none, none, .store (some 1) 5 false (.s 5) (.s 34)⟩]) (
  .ret)
def f_custodyref05_Random_Bytes_r4 : ACode :=
  .seq (
    .block 0 (
      .loop f_custodyref05_Random_Bytes_l0)) (
  f_custodyref05_Random_Bytes_r8)
def f_custodyref05_Random_Bytes_r3 : ACode :=
  .seq (
    .region [5, 6, 7] [.norm [2, 5, 7]] [
      ⟨(some 17), none, .load (some 1) (some 2) false (.s 2)⟩,
      ⟨(some 7), none, .alloc 7 [st []]⟩,
      ⟨none, none, .store (some 1) 7 false (.s 7) (.s 17)⟩]) (
  f_custodyref05_Random_Bytes_r4)
def f_custodyref05_Random_Bytes_r2 : ACode :=
  .seq (
    .region [2, 5, 6] [] [
      ⟨(some 6), none, .mv false (.c (st []))⟩]) (
  f_custodyref05_Random_Bytes_r3)
def f_custodyref05_Random_Bytes_r0 : ACode :=
  .seq (
    .seq (
      .region [2, 5, 15] [] [
        ⟨(some 10), none, .mv false (.s 1)⟩,
        ⟨(some 11), none, .bin .lss (.s 10) (.c (i64 0))⟩,
        ⟨(some 12), none, .mv false (.s 11)⟩,
        ⟨(some 13), (some (12, false)), .mv false (.s 1)⟩,
        ⟨(some 14), (some (12, false)), .bin .gtr (.s 13) (.c (i64 8000))⟩,
        ⟨(some 15), none, .pick (.s 12) (.c (bo true)) (.s 14)⟩]) (
    f_custodyref05_Random_Bytes_r1)) (
  f_custodyref05_Random_Bytes_r2)
def f_custodyref05_Random_Bytes : AFun :=
 { n := 2, wr := [], res := [.t 4, .cell 5 (some 1) 5], body :=
    .seq (
      .region [2, 5] [.norm [2, 5]] [
        ⟨(some 2), none, .box 2 (some 1) false (.s 0)⟩,
        ⟨(some 4), none, .mv false (.c (st []))⟩,
        ⟨(some 5), none, .alloc 5 [st []]⟩]) (
    f_custodyref05_Random_Bytes_r0) }

/-- (custody kdf.Random).values (iterator) = 73; calls kdf.Random).Next = 75 -/
def f_kdf_Random_values_r0 : ACode :=
  .cond (.s 7) (
    .ghost (.keep [2]) .skip) (
    .ghost (.keep []) (.exit 0))
def f_kdf_Random_values_p0 : ACode :=
  .seq (
    .region [2, 7] [] [
      ⟨(some 7), none, .mv false (.s 4)⟩]) (
  f_kdf_Random_values_r0)
def f_kdf_Random_values_p1 : ACode :=
  .region [2, 5, 6] [.norm [2, 6]] [
    ⟨(some 9), none, .load (some 1) (some 2) false (.s 2)⟩,
    ⟨(some 10), none, .call 75 [(.s 9)] []⟩,
    ⟨(some 8), none, .mv false (.s 10)⟩,
    ⟨(some 11), none, .extract 0 (.s 8)⟩,
    ⟨(some 12), none, .extract 1 (.s 8)⟩,
    ⟨(some 6), none, .alloc 6 [st []]⟩,
    ⟨(some 5), none, .mv false (.s 11)⟩,
    ⟨none, none, .store (some 1) 6 false (.s 6) (.s 12)⟩]
def f_kdf_Random_values_i0 : ICode :=
                  .seq (
                    .yield [2, 4, 6] [.norm [2, 6]] [
                      ⟨(some 13), none, .mv false (.s 1)⟩,
                      ⟨(some 14), none, .mv false (.s 5)⟩,
                      ⟨(some 15), none, .load (some 1) (some 6) false (.s 6)⟩] (some 16) 13 [(.s 14), (.s 15)] [
                      ⟨(some 4), none, .mv false (.s 16)⟩]) (
                    .plain (
  .region [2, 4] [.norm [2, 6], .drop [6]] [
    ⟨(some 17), none, .load (some 1) (some 6) false (.s 6)⟩,
    ⟨none, none, .store (some 1) 2 false (.s 2) (.s 17)⟩]))
def f_kdf_Random_values_i1 : ICode :=
              .block 1 (
                .seq (
                  .plain f_kdf_Random_values_p1) (
                  f_kdf_Random_values_i0))
def f_kdf_Random_values_i2 : ICode :=
            .seq (
              .plain f_kdf_Random_values_p0) (
              f_kdf_Random_values_i1)
def f_kdf_Random_values_i3 : ICode :=
        .block 0 (
          .loop (
            f_kdf_Random_values_i2))
def f_kdf_Random_values_i4 : ICode :=
      .seq (
        .plain (
  .region [2, 4] [] [
    ⟨(some 4), none, .mv false (.c (bo true))⟩])) (
        f_kdf_Random_values_i3)
def f_kdf_Random_values : IFun :=
 { nx := 1, ny := 0, body :=
    .seq (
      .plain (
  .region [2] [.norm [2]] [
    ⟨(some 2), none, .box 2 (some 1) false (.s 0)⟩])) (
      f_kdf_Random_values_i4) }

end Go.Abs
end

section
namespace Go.Abs

/-! ### strings.Builder -/
@[simp] theorem bldEff0 (id : Nat) (c x : AVal) (xs : List AVal) : bldEff 0 id c x xs = { val := i64 (slen c) } := rfl
@[simp] theorem bldEff1 (id : Nat) (c x : AVal) (xs : List AVal) : bldEff 1 id c x xs = { val := .tup [i64 (slen x), .lit .nilIface], bx := [(id, some [.undef, .sl (.own 1) none (slen c + slen x) (scells [] c ++ xs)])] } := rfl
@[simp] theorem bldEff2 (id : Nat) (c x : AVal) (xs : List AVal) : bldEff 2 id c x xs = { val := .tup [i64 (slen x), .lit .nilIface], bx := [(id, some [.undef, .sl (.own 1) none (slen c + slen x) (scells [] c ++ xs)])] } := rfl
@[simp] theorem bldEff3 (id : Nat) (nl : Option Bool) (n : Nat) (l : List UInt8) (x : AVal) (xs : List AVal) : bldEff 3 id (.sl (.own 1) nl n (bys l)) x xs = { val := st l, bx := [(id, some [])] } := by
  show ({ val := .lit (.string (bytesOf (bytesA l))), bx := _ } : Eff) = _
  rw [bytesOf_bytesA]
  rfl
theorem bldOk0 {id n : Nat} {nl : Option Bool} {l : List UInt8} {b : Option Nat} {bb : Option (List AVal)} {x : AVal} {xs : List AVal} (hn : n = l.length) : bldOk 0 id (some [.undef, .sl (.own 1) nl n (bys l)]) b bb x xs = True :=
  eq_true ⟨nl, l, by rw [hn]; rfl, trivial⟩
theorem bldOk1 {id n : Nat} {nl : Option Bool} {l s : List UInt8} {b : Option Nat} {bb : Option (List AVal)} {xs : List AVal} (hn : n = l.length) (h : l.length + s.length ≤ 140737488355328) : bldOk 1 id (some [.undef, .sl (.own 1) nl n (bys l)]) b bb (st s) xs = True :=
  eq_true ⟨nl, l, by rw [hn]; rfl, trivial, by rw [slen_st]; exact h⟩
theorem bldOk3 {id n : Nat} {nl : Option Bool} {l : List UInt8} {b : Option Nat} {bb : Option (List AVal)} {x : AVal} {xs : List AVal} (hn : n = l.length) (h : l ≠ []) : bldOk 3 id (some [.undef, .sl (.own 1) nl n (bys l)]) b bb x xs = True :=
  eq_true ⟨nl, l, by rw [hn]; rfl, h⟩

theorem kT {E : Env} {c : Arg} {a b : ACode} {Q : AExit → ASt → Prop} {s : ASt} (h : arg E s.get c = bo true) : awp E (.cond c a b) Q s = awp E a Q s := by
  rw [awp_cond, h]; simp
theorem kF {E : Env} {c : Arg} {a b : ACode} {Q : AExit → ASt → Prop} {s : ASt} (h : arg E s.get c = bo false) : awp E (.cond c a b) Q s = awp E b Q s := by
  rw [awp_cond, h]; simp

/-! ### Iterators -/
theorem postI_then {f : Nat × Bool → ASt → Prop} {Q : IQ} {p : Nat × Bool} : (fun e st' => thenI f Q e p st') = thenQ (fun st' => f p st') (fun e st' => Q e p st') := by
  funext e st'
  cases e <;> rfl
theorem postI_block {i : Nat} {Q : IQ} {p : Nat × Bool} : (fun e st' => blockI i Q e p st') = blockQ i (fun e st' => Q e p st') := by
  funext e st'
  cases e <;> rfl
@[simp] theorem iwp_plain (E : Env) (l : Nat) (el : Nat → Option (List AVal)) (c : ACode) (Q : IQ) (p : Nat × Bool) (s : ASt) : iwpL E l el (.plain c) Q p s = awp E c (fun e st' => Q e p st') s := rfl
@[simp] theorem iwp_seqp (E : Env) (l : Nat) (el : Nat → Option (List AVal)) (c : ACode) (b : ICode) (Q : IQ) (p : Nat × Bool) (s : ASt) : iwpL E l el (.seq (.plain c) b) Q p s = awp E c (thenQ (fun st' => iwpL E l el b Q p st') (fun e st' => Q e p st')) s := by
  simp only [iwpL, postI_then]
@[simp] theorem iwp_block (E : Env) (l : Nat) (el : Nat → Option (List AVal)) (i : Nat) (b : ICode) (Q : IQ) (p : Nat × Bool) (s : ASt) : iwpL E l el (.block i b) Q p s = iwpL E l el b (blockI i Q) p s := rfl
@[simp] theorem thenI_normal (f : Nat × Bool → ASt → Prop) (Q : IQ) (p : Nat × Bool) (s : ASt) : thenI f Q .normal p s = f p s := rfl
@[simp] theorem thenI_exit (f : Nat × Bool → ASt → Prop) (Q : IQ) (i : Nat) (p : Nat × Bool) (s : ASt) : thenI f Q (.exit i) p s = Q (.exit i) p s := rfl
@[simp] theorem blockI_normal (i : Nat) (Q : IQ) (p : Nat × Bool) (s : ASt) : blockI i Q .normal p s = Q .normal p s := rfl
@[simp] theorem blockI_same (i : Nat) (Q : IQ) (p : Nat × Bool) (s : ASt) : blockI i Q (.exit i) p s = Q .normal p s := by simp [blockI]
def runK (E : Env) (f : ASt → Prop) : List AOper → ASt → Prop
  | [], st => f st
  | o :: os, st => okA E o st ∧ runK E f os (stepA E o st)
attribute [simp] runK
theorem runK_eq (E : Env) (f : ASt → Prop) : ∀ (xs : List AOper) (st : ASt), runK E f xs st = (okRun E xs st ∧ f (runA E xs st))
  | [], st => by simp only [runK, okRun, runA, true_and]
  | o :: os, st => by simp only [runK, okRun, runA, runK_eq E f os]; exact propext and_assoc.symm
@[simp] theorem iwp_yield (E : Env) (l : Nat) (el : Nat → Option (List AVal)) (keep : List Nat) (gs : List Ghost) (xs : List AOper) (d : Option Nat) (y : Nat) (as : List Arg) (zs : List AOper) (Q : IQ) (p : Nat × Bool) (s : ASt) :
    iwpL E l el (.yield keep gs xs d y as zs) Q p s = ((∀ s' ∈ d.toList, lk s.org s' = none) ∧ runK E (fun st1 => p.2 = false ∧ el p.1 = some (as.map (arg E st1.get)) ∧ memFreeL (as.map (arg E st1.get)) = true ∧ st1.get y = .lit (.func (.yield l) #[] #[]) ∧ (∀ q ∈ st1.env, yOk q.2 = true) ∧ (∀ q ∈ st1.box, ∀ cs, q.2 = some cs → cs.all yOk = true ∧ q.1 < 1000000) ∧
      ∀ b : Bool, runR E keep gs (fun e s => Q e (if b then (p.1 + 1, false) else (p.1, true)) s) zs (putB d b st1)) xs s) := by
  simp only [runK_eq, runR_eq, iwpL]
  apply propext
  constructor
  · rintro ⟨h1, h2, h3, h4, h5, h6, h7, h8, h9⟩
    exact ⟨h2, h1, h3, h4, h5, h6, h7, h8, h9⟩
  · rintro ⟨h2, h1, h3, h4, h5, h6, h7, h8, h9⟩
    exact ⟨h1, h2, h3, h4, h5, h6, h7, h8, h9⟩
@[simp] theorem putB_some (d : Nat) (b : Bool) (o e : List (Nat × AVal)) (bx : List (Nat × Option (List AVal))) : putB (some d) b ⟨o, e, bx⟩ = ⟨o, (d, bo b) :: e, bx⟩ := rfl
@[simp] theorem putB_none (b : Bool) (o e : List (Nat × AVal)) (bx : List (Nat × Option (List AVal))) : putB none b ⟨o, e, bx⟩ = ⟨o, e, bx⟩ := rfl
@[simp] theorem yOk_undef : yOk .undef = true := rfl
@[simp] theorem yOk_bp (i o : Nat) : yOk (.bp i o) = true := rfl
@[simp] theorem yOk_lit (v : Value) : yOk (.lit v) = true := rfl
@[simp] theorem yOk_st (l : List UInt8) : yOk (st l) = true := rfl
@[simp] theorem yOk_bo (b : Bool) : yOk (bo b) = true := rfl
@[simp] theorem yOk_i64 (n : Int) : yOk (i64 n) = true := rfl
@[simp] theorem yOk_agg (cs : List AVal) : yOk (.agg cs) = memFreeL cs := rfl
@[simp] theorem yOk_tup (cs : List AVal) : yOk (.tup cs) = memFreeL cs := rfl
@[simp] theorem iwp_seqy (E : Env) (l : Nat) (el : Nat → Option (List AVal)) (keep : List Nat) (gs : List Ghost) (xs : List AOper) (d : Option Nat) (y : Nat) (as : List Arg) (zs : List AOper) (b : ICode) (Q : IQ) (p : Nat × Bool) (s : ASt) :
    iwpL E l el (.seq (.yield keep gs xs d y as zs) b) Q p s = iwpL E l el (.yield keep gs xs d y as zs) (thenI (fun p st => iwpL E l el b Q p st) Q) p s := rfl
theorem iwp_name {E : Env} {l : Nat} {el : Nat → Option (List AVal)} {b : ICode} {Q : IQ} {p : Nat × Bool} {s : ASt} (h : ∀ Q', Q' = Q → iwpL E l el b Q' p s) : iwpL E l el b Q p s := h Q rfl
theorem iwp_loop {E : Env} {l : Nat} {el : Nat → Option (List AVal)} {b : ICode} {Q : IQ} {p : Nat × Bool} {s : ASt} (I : Nat × Bool → ASt → Prop) (h0 : I p s)
    (h : ∀ p s, I p s → ∀ Q', (∀ p' s', I p' s' → p.2 = false → (p' = (p.1 + 1, false) ∨ p' = (p.1, true)) → Q' .normal p' s') → (∀ i p' s', Q' (.exit i) p' s' = Q (.exit i) p' s') → iwpL E l el b Q' p s) : iwpL E l el (.loop b) Q p s :=
  ⟨I, h0, fun p s hi => h p s hi _ (fun p' s' h1 h2 h3 => ⟨h1, h2, h3⟩) (fun _ _ _ => rfl)⟩

def minW (x y : AVal) : AVal := match x, y with | .lit (.int k a), .lit (.int _ b) => .lit (.int k (if b < a then b else a)) | _, _ => .undef
theorem eff_minW (E : Env) (get : Nat → AVal) (getB : Nat → Option (List AVal)) (x y : Arg) : eff E get getB (.min2 x y) = { val := minW (arg E get x) (arg E get y) } := rfl
theorem minW_i64 (a b : Int) : minW (i64 a) (i64 b) = i64 (if b < a then b else a) := rfl

/-! ### What is computed -/
def inp (label : List UInt8) (parts : List (List UInt8)) : List UInt8 := encS label ++ parts.flatMap encS
def drv (key label : List UInt8) (parts : List (List UInt8)) : List UInt8 := mac key (inp label parts)
theorem drv_len (k l : List UInt8) (p : List (List UInt8)) : (drv k l p).length = 32 := sha_len _
attribute [simp] drv_len
def pth (key : List UInt8) (ls : List (List UInt8)) : List UInt8 := ls.foldl (fun k l => drv k l []) key
def seedL : List UInt8 := [115, 101, 101, 100]
def valL : List UInt8 := [118, 97, 108, 117, 101]
/-- The generator after i steps; its value; what it yields in i steps. -/
def sdN (s : List UInt8) : Nat → List UInt8
  | 0 => s
  | i + 1 => drv (sdN s i) seedL []
def vlN (s : List UInt8) (i : Nat) : List UInt8 := drv (sdN s i) valL []
def stN (s : List UInt8) : Nat → List UInt8
  | 0 => []
  | i + 1 => stN s i ++ vlN s i
theorem stN_len (s : List UInt8) : ∀ i, (stN s i).length = 32 * i
  | 0 => rfl
  | i + 1 => by simp only [stN, vlN, List.length_append, stN_len s i, drv_len]; omega
def blkN (n : Int) : Nat := (n.toNat + 31) / 32
def bysN (s : List UInt8) (n : Int) : List UInt8 := if n ≤ 0 ∨ 8000 < n then [] else (stN s (blkN n)).take n.toNat
def aftN (s : List UInt8) (n : Int) : List UInt8 := if n ≤ 0 ∨ 8000 < n then s else sdN s (blkN n)

def derC : Contract := ⟨fun ds => ∃ (key label : List UInt8) (nl : Option Bool) (parts : List (List UInt8)), key.length < 1000000000 ∧ label.length < 1000000000 ∧ totS parts < 1000000000 ∧ ds = [st key, st label, .sl .plain nl parts.length (sts parts)], fun ds => st (drv (gS (nth ds 0)) (gS (nth ds 1)) (gSs (gCs (nth ds 2))))⟩
def inpC : Contract := ⟨fun ds => ∃ (label : List UInt8) (nl : Option Bool) (parts : List (List UInt8)), label.length < 1000000000 ∧ totS parts < 1000000000 ∧ ds = [st label, .sl .plain nl parts.length (sts parts)], fun ds => st (inp (gS (nth ds 0)) (gSs (gCs (nth ds 1))))⟩
def pthC : Contract := ⟨fun ds => ∃ (key : List UInt8) (nl : Option Bool) (ls : List (List UInt8)), key.length < 1000000000 ∧ totS ls < 1000000000 ∧ ds = [st key, .sl .plain nl ls.length (sts ls)], fun ds => st (pth (gS (nth ds 0)) (gSs (gCs (nth ds 1))))⟩
def gR (d : AVal) : List UInt8 := gS (nth (gCs d) 0)
def nxtC : Contract := ⟨fun ds => ∃ s : List UInt8, s.length < 1000000000 ∧ ds = [.agg [st s]], fun ds => .tup [st (drv (gR (nth ds 0)) valL []), .agg [st (drv (gR (nth ds 0)) seedL [])]]⟩
def gbysC : Contract := ⟨fun ds => ∃ (s : List UInt8) (n : Int), s.length < 1000000000 ∧ isI64 n ∧ ds = [.agg [st s], i64 n], fun ds => .tup [st (bysN (gR (nth ds 0)) (asI (nth ds 1))), .agg [st (aftN (gR (nth ds 0)) (asI (nth ds 1)))]]⟩
def valsC : ItC := ⟨fun x y => ∃ s : List UInt8, s.length < 1000000000 ∧ x = [.agg [st s]] ∧ y = [], fun x _ i => some [st (vlN (gR (nth x 0)) i), .agg [st (sdN (gR (nth x 0)) (i + 1))]]⟩

theorem der_pre {k l : List UInt8} {nl : Option Bool} {n : Nat} {p : List (List UInt8)} (hk : k.length < 1000000000) (hl : l.length < 1000000000) (hp : totS p < 1000000000) (hn : n = p.length) : derC.pre [st k, st l, .sl .plain nl n (sts p)] = True := eq_true ⟨k, l, nl, p, hk, hl, hp, by rw [hn]⟩
theorem der_pre0 {k l : List UInt8} {nl : Option Bool} (hk : k.length < 1000000000) (hl : l.length < 1000000000) : derC.pre [st k, st l, .sl .plain nl 0 []] = True := eq_true ⟨k, l, nl, [], hk, hl, by decide, rfl⟩
@[simp] theorem der_post (k l : List UInt8) (nl : Option Bool) (n : Nat) (p : List (List UInt8)) : derC.post [st k, st l, .sl .plain nl n (sts p)] = st (drv k l p) := by simp [derC]
@[simp] theorem der_post0 (k l : List UInt8) (nl : Option Bool) (n : Nat) : derC.post [st k, st l, .sl .plain nl n []] = st (drv k l []) := by
  have := der_post k l nl n []
  simpa using this
theorem inp_pre {l : List UInt8} {nl : Option Bool} {n : Nat} {p : List (List UInt8)} (hl : l.length < 1000000000) (hp : totS p < 1000000000) (hn : n = p.length) : inpC.pre [st l, .sl .plain nl n (sts p)] = True := eq_true ⟨l, nl, p, hl, hp, by rw [hn]⟩
@[simp] theorem inp_post (l : List UInt8) (nl : Option Bool) (n : Nat) (p : List (List UInt8)) : inpC.post [st l, .sl .plain nl n (sts p)] = st (inp l p) := by simp [inpC]
theorem pth_pre {k : List UInt8} {nl : Option Bool} {n : Nat} {p : List (List UInt8)} (hk : k.length < 1000000000) (hp : totS p < 1000000000) (hn : n = p.length) : pthC.pre [st k, .sl .plain nl n (sts p)] = True := eq_true ⟨k, nl, p, hk, hp, by rw [hn]⟩
@[simp] theorem pth_post (k : List UInt8) (nl : Option Bool) (n : Nat) (p : List (List UInt8)) : pthC.post [st k, .sl .plain nl n (sts p)] = st (pth k p) := by simp [pthC]
theorem nxt_pre {s : List UInt8} (h : s.length < 1000000000) : nxtC.pre [.agg [st s]] = True := eq_true ⟨s, h, rfl⟩
@[simp] theorem nxt_post (s : List UInt8) : nxtC.post [.agg [st s]] = .tup [st (drv s valL []), .agg [st (drv s seedL [])]] := by simp [nxtC, gR]
theorem gbys_pre {s : List UInt8} {n : Int} (h : s.length < 1000000000) (hn : isI64 n) : gbysC.pre [.agg [st s], i64 n] = True := eq_true ⟨s, n, h, hn, rfl⟩
@[simp] theorem gbys_post (s : List UInt8) (n : Int) : gbysC.post [.agg [st s], i64 n] = .tup [st (bysN s n), .agg [st (aftN s n)]] := by simp [gbysC, gR]
theorem inp_len {l : List UInt8} {p : List (List UInt8)} (hl : l.length < 1000000000) (hp : totS p < 1000000000) : (inp l p).length < 3000000000 := by
  have h1 := encS_len (s := l) (by omega)
  have h2 := len_flatMap_encS (l := p) (by omega)
  rw [inp, List.length_append]; omega
theorem totS_take' (l : List (List UInt8)) (i : Nat) : totS (l.take i) ≤ totS l := by
  induction l generalizing i with
  | nil => simp
  | cons x l ih =>
    cases i with
    | zero => simp [totS]
    | succ i => have := ih i; simp only [totS, List.take_succ_cons, List.map_cons, List.sum_cons] at this ⊢; omega
end Go.Abs
end

section
namespace Go.Abs
theorem der_ok (E : Env) (h6 : E.G 6 = macC) (h7 : E.G 7 = bytesC) : ∀ ds, derC.pre ds → ds.length = f_kdf_Derive.n ∧ awp E f_kdf_Derive.body (retQ f_kdf_Derive.res (derC.post ds)) (initSt f_kdf_Derive.wr ds) := by
  rintro _ ⟨k, l, nl, p, hk, hl, hp, rfl⟩
  rw [der_post]
  have h1 := encS_len (s := l) (by omega)
  have hpl := len_le_totS p
  simp (maxSteps := 1000000) (disch := first | omega | (simp; done) | (simp; omega)) [W_id, bys_app, bys_snoc, f_kdf_Derive, f_kdf_Derive_r0, f_kdf_Derive_r1, h7, bytes_pre]
  refine awp_name fun Q0 hQ0 => ?_
  simp (maxSteps := 1000000) (disch := first | omega | (simp; done) | (simp; omega)) [W_id, bys_app, bys_snoc, f_kdf_Derive_r2]
  refine awp_for (fun i : Nat => ⟨[(0, st k), (1, st l), (2, .sl .plain nl p.length (sts p))], [(7, .sl (.own 1) (some false) (inp l (p.take i)).length (bys (inp l (p.take i)))), (12, .sl .plain nl p.length (sts p)), (13, i64 p.length), (14, i64 i)], []⟩) (fun i => p.length - i) (· ≤ p.length) 0 (by simp [inp]) (by simp) fun i hi => ?_
  refine awp_name fun Q1 hQ1 => ?_
  simp (maxSteps := 1000000) (disch := first | omega | (simp; done) | (simp; omega)) [W_id, bys_app, bys_snoc, f_kdf_Derive_l0, f_kdf_Derive_r3]
  rw [awp_cond]
  refine ⟨by simp, fun h => ?_, fun h => ?_⟩ <;> simp at h
  · have h' : i < p.length := by omega
    have hs : inp l (p.take (i + 1)) = inp l (p.take i) ++ encS (atS p i) := by rw [inp, flatMap_take_succ p encS [] h', inp, List.append_assoc]; rfl
    have g0 := atS_mem_tot h'
    have g1 := encS_len (s := atS p i) (by omega)
    have g2 := totS_take' p i
    have g3 := inp_len (l := l) (p := p.take i) hl (by omega)
    generalize hF : inp l (p.take i) = F at *
    generalize hX : atS p i = x at *
    simp (maxSteps := 1000000) (disch := first | omega | (simp; done) | (simp; omega)) [W_id, bys_app, bys_snoc, f_kdf_Derive_r4, f_kdf_Derive_r5, hd_sts, hX, h7, bytes_pre, hQ1]
    refine ⟨by omega, by omega, by omega, i + 1, by omega, by omega, ⟨?_, hs.symm⟩, by simp⟩
    rw [hs, List.length_append]
  · have e : i = p.length := by omega
    subst e
    have g3 := inp_len (l := l) (p := p) hl (by omega)
    simp (maxSteps := 1000000) (disch := first | omega | (simp; done) | (simp; omega)) [W_id, bys_app, bys_snoc, hQ1, hQ0, f_kdf_Derive_r6, h6, mac_pre, drv]
theorem inp_ok (E : Env) (h29 : E.G 29 = rbytesC) : ∀ ds, inpC.pre ds → ds.length = f_custodyref05_Input.n ∧ awp E f_custodyref05_Input.body (retQ f_custodyref05_Input.res (inpC.post ds)) (initSt f_custodyref05_Input.wr ds) := by
  rintro _ ⟨l, nl, p, hl, hp, rfl⟩
  rw [inp_post]
  have h1 := encS_len (s := l) (by omega)
  have hpl := len_le_totS p
  simp (maxSteps := 1000000) (disch := first | omega | (simp; done) | (simp; omega)) [W_id, bys_app, bys_snoc, f_custodyref05_Input, f_custodyref05_Input_r0, f_custodyref05_Input_r1, h29, rbytes_pre]
  refine ⟨by omega, ?_⟩
  refine awp_name fun Q0 hQ0 => ?_
  simp (maxSteps := 1000000) (disch := first | omega | (simp; done) | (simp; omega)) [W_id, bys_app, bys_snoc, f_custodyref05_Input_r2]
  refine awp_for (fun i : Nat => ⟨[(0, st l), (1, .sl .plain nl p.length (sts p))], [(5, .sl (.own 1) (some false) (inp l (p.take i)).length (bys (inp l (p.take i)))), (6, i64 i)], []⟩) (fun i => p.length - i) (· ≤ p.length) 0 (by simp [inp]) (by simp) fun i hi => ?_
  refine awp_name fun Q1 hQ1 => ?_
  simp (maxSteps := 1000000) (disch := first | omega | (simp; done) | (simp; omega)) [W_id, bys_app, bys_snoc, f_custodyref05_Input_l0, f_custodyref05_Input_r3]
  rw [awp_cond]
  refine ⟨by simp, fun h => ?_, fun h => ?_⟩ <;> simp at h
  · have h' : i < p.length := by omega
    have hs : inp l (p.take (i + 1)) = inp l (p.take i) ++ encS (atS p i) := by rw [inp, flatMap_take_succ p encS [] h', inp, List.append_assoc]; rfl
    have g0 := atS_mem_tot h'
    have g1 := encS_len (s := atS p i) (by omega)
    have g2 := totS_take' p i
    have g3 := inp_len (l := l) (p := p.take i) hl (by omega)
    generalize hF : inp l (p.take i) = F at *
    generalize hX : atS p i = x at *
    simp (maxSteps := 1000000) (disch := first | omega | (simp; done) | (simp; omega)) [W_id, bys_app, bys_snoc, f_custodyref05_Input_r4, hd_sts, hX, h29, rbytes_pre, hQ1]
    refine ⟨by omega, by omega, by omega, i + 1, by omega, by omega, ⟨?_, hs.symm⟩, by simp⟩
    rw [hs, List.length_append]
  · have e : i = p.length := by omega
    subst e
    have g3 := inp_len (l := l) (p := p) hl (by omega)
    simp (maxSteps := 1000000) (disch := first | omega | (simp; done) | (simp; omega)) [W_id, bys_app, bys_snoc, hQ1, hQ0, f_custodyref05_Input_r5]
theorem rder_ok (E : Env) (h77 : E.G 77 = inpC) (h18 : E.G 18 = rmacC) : ∀ ds, derC.pre ds → ds.length = f_custodyref05_Derive.n ∧ awp E f_custodyref05_Derive.body (retQ f_custodyref05_Derive.res (derC.post ds)) (initSt f_custodyref05_Derive.wr ds) := by
  rintro _ ⟨k, l, nl, p, hk, hl, hp, rfl⟩
  rw [der_post]
  have g3 := inp_len (l := l) (p := p) hl (by omega)
  simp (maxSteps := 1000000) (disch := first | omega | (simp; done) | (simp; omega)) [W_id, bys_app, bys_snoc, f_custodyref05_Derive, f_custodyref05_Derive_r0, h77, inp_pre, h18, rmac_pre, drv]
theorem nxt_ok (E : Env) (h76 : E.G 76 = derC) : ∀ ds, nxtC.pre ds → ds.length = f_kdf_Random_Next.n ∧ awp E f_kdf_Random_Next.body (retQ f_kdf_Random_Next.res (nxtC.post ds)) (initSt f_kdf_Random_Next.wr ds) := by
  rintro _ ⟨s, hs, rfl⟩
  rw [nxt_post]
  simp (maxSteps := 1000000) (disch := first | omega | (simp; done) | (simp; omega)) [W_id, bys_app, bys_snoc, f_kdf_Random_Next, f_kdf_Random_Next_r0, h76, der_pre0, valL, seedL]
theorem rnxt_ok (E : Env) (h78 : E.G 78 = derC) : ∀ ds, nxtC.pre ds → ds.length = f_custodyref05_Random_Next.n ∧ awp E f_custodyref05_Random_Next.body (retQ f_custodyref05_Random_Next.res (nxtC.post ds)) (initSt f_custodyref05_Random_Next.wr ds) := by
  rintro _ ⟨s, hs, rfl⟩
  rw [nxt_post]
  simp (maxSteps := 1000000) (disch := first | omega | (simp; done) | (simp; omega)) [W_id, bys_app, bys_snoc, f_custodyref05_Random_Next, f_custodyref05_Random_Next_r0, h78, der_pre0, valL, seedL]
theorem pth_take {k : List UInt8} {p : List (List UInt8)} {i : Nat} (h : i < p.length) : pth k (p.take (i + 1)) = drv (pth k (p.take i)) (atS p i) [] := by
  rw [pth, takeS h, List.foldl_append]; rfl
theorem pth_len {k : List UInt8} (hk : k.length < 1000000000) (p : List (List UInt8)) : (pth k p).length < 1000000000 := by
  unfold pth
  induction p generalizing k with
  | nil => exact hk
  | cons x p ih => rw [List.foldl_cons]; exact ih (by rw [drv_len]; omega)
theorem pth_ok (E : Env) (h76 : E.G 76 = derC) : ∀ ds, pthC.pre ds → ds.length = f_kdf_Path.n ∧ awp E f_kdf_Path.body (retQ f_kdf_Path.res (pthC.post ds)) (initSt f_kdf_Path.wr ds) := by
  rintro _ ⟨k, nl, p, hk, hp, rfl⟩
  rw [pth_post]
  have hpl := len_le_totS p
  simp (maxSteps := 1000000) (disch := first | omega | (simp; done) | (simp; omega)) [W_id, bys_app, bys_snoc, f_kdf_Path, f_kdf_Path_r0]
  refine awp_name fun Q0 hQ0 => ?_
  simp (maxSteps := 1000000) (disch := first | omega | (simp; done) | (simp; omega)) [W_id, bys_app, bys_snoc, f_kdf_Path_r1]
  refine awp_for (fun i : Nat => ⟨[(1, .sl .plain nl p.length (sts p))], [(0, st (pth k (p.take i))), (7, .sl .plain nl p.length (sts p)), (8, i64 p.length), (9, i64 i)], []⟩) (fun i => p.length - i) (· ≤ p.length) 0 (by simp [pth]) (by simp) fun i hi => ?_
  refine awp_name fun Q1 hQ1 => ?_
  simp (maxSteps := 1000000) (disch := first | omega | (simp; done) | (simp; omega)) [W_id, bys_app, bys_snoc, f_kdf_Path_l0, f_kdf_Path_r2]
  rw [awp_cond]
  refine ⟨by simp, fun h => ?_, fun h => ?_⟩ <;> simp at h
  · have h' : i < p.length := by omega
    have hs := pth_take (k := k) h'
    have g0 := atS_mem_tot h'
    have g1 := pth_len hk (p.take i)
    generalize hF : pth k (p.take i) = F at *
    generalize hX : atS p i = x at *
    simp (maxSteps := 1000000) (disch := first | omega | (simp; done) | (simp; omega)) [W_id, bys_app, bys_snoc, f_kdf_Path_r3, f_kdf_Path_r4, hd_sts, hX, h76, der_pre0, hQ1]
    exact ⟨by omega, by omega, i + 1, by omega, by omega, hs.symm, by simp⟩
  · have e : i = p.length := by omega
    subst e
    simp (maxSteps := 1000000) (disch := first | omega | (simp; done) | (simp; omega)) [W_id, bys_app, bys_snoc, hQ1, hQ0, f_kdf_Path_r5]
theorem rpth_ok (E : Env) (h78 : E.G 78 = derC) : ∀ ds, pthC.pre ds → ds.length = f_custodyref05_Path.n ∧ awp E f_custodyref05_Path.body (retQ f_custodyref05_Path.res (pthC.post ds)) (initSt f_custodyref05_Path.wr ds) := by
  rintro _ ⟨k, nl, p, hk, hp, rfl⟩
  rw [pth_post]
  have hpl := len_le_totS p
  simp (maxSteps := 1000000) (disch := first | omega | (simp; done) | (simp; omega)) [W_id, bys_app, bys_snoc, f_custodyref05_Path, f_custodyref05_Path_r0, f_custodyref05_Path_r1]
  refine awp_name fun Q0 hQ0 => ?_
  simp (maxSteps := 1000000) (disch := first | omega | (simp; done) | (simp; omega)) [W_id, bys_app, bys_snoc, f_custodyref05_Path_r2]
  refine awp_for (fun i : Nat => ⟨[(0, st k), (1, .sl .plain nl p.length (sts p))], [(5, st (pth k (p.take i))), (6, i64 i)], []⟩) (fun i => p.length - i) (· ≤ p.length) 0 (by simp [pth]) (by simp) fun i hi => ?_
  refine awp_name fun Q1 hQ1 => ?_
  simp (maxSteps := 1000000) (disch := first | omega | (simp; done) | (simp; omega)) [W_id, bys_app, bys_snoc, f_custodyref05_Path_l0, f_custodyref05_Path_r3]
  rw [awp_cond]
  refine ⟨by simp, fun h => ?_, fun h => ?_⟩ <;> simp at h
  · have h' : i < p.length := by omega
    have hs := pth_take (k := k) h'
    have g0 := atS_mem_tot h'
    have g1 := pth_len hk (p.take i)
    generalize hF : pth k (p.take i) = F at *
    generalize hX : atS p i = x at *
    simp (maxSteps := 1000000) (disch := first | omega | (simp; done) | (simp; omega)) [W_id, bys_app, bys_snoc, f_custodyref05_Path_r4, hd_sts, hX, h78, der_pre0, hQ1]
    exact ⟨by omega, by omega, i + 1, by omega, by omega, hs.symm, by simp⟩
  · have e : i = p.length := by omega
    subst e
    simp (maxSteps := 1000000) (disch := first | omega | (simp; done) | (simp; omega)) [W_id, bys_app, bys_snoc, hQ1, hQ0, f_custodyref05_Path_r5]
end Go.Abs
end

section
namespace Go.Abs
theorem sdN_len {s : List UInt8} (h : s.length < 1000000000) : ∀ i, (sdN s i).length < 1000000000
  | 0 => h
  | i + 1 => by rw [sdN, drv_len]; omega
theorem blk_pos {n : Int} (h0 : 0 < n) (h1 : n ≤ 8000) : n.toNat ≤ 32 * blkN n ∧ 32 * (blkN n) < n.toNat + 32 := by unfold blkN; omega
theorem blk_eq {n : Int} {i : Nat} (h0 : 32 * i < n.toNat) (h1 : n.toNat ≤ 32 * i + 32) : blkN n = i + 1 := by unfold blkN; omega
theorem rbys_ok (E : Env) (h81 : E.G 81 = nxtC) : ∀ ds, gbysC.pre ds → ds.length = f_custodyref05_Random_Bytes.n ∧ awp E f_custodyref05_Random_Bytes.body (retQ f_custodyref05_Random_Bytes.res (gbysC.post ds)) (initSt f_custodyref05_Random_Bytes.wr ds) := by
  rintro _ ⟨s, n, hs, ⟨hn0, hn1⟩, rfl⟩
  rw [gbys_post]
  by_cases h0 : n < 0
  · have e1 : bysN s n = [] := by rw [bysN, if_pos (.inl (by omega))]
    have e2 : aftN s n = s := by rw [aftN, if_pos (.inl (by omega))]
    simp (maxSteps := 1000000) (disch := first | omega | (simp; done) | (simp; omega)) [W_id, bys_app, bys_snoc, f_custodyref05_Random_Bytes, f_custodyref05_Random_Bytes_r0, f_custodyref05_Random_Bytes_r1, kT, kF, dT, dF, e1, e2]
  by_cases h1 : 8000 < n
  · have e1 : bysN s n = [] := by rw [bysN, if_pos (.inr h1)]
    have e2 : aftN s n = s := by rw [aftN, if_pos (.inr h1)]
    simp (maxSteps := 1000000) (disch := first | omega | (simp; done) | (simp; omega)) [W_id, bys_app, bys_snoc, f_custodyref05_Random_Bytes, f_custodyref05_Random_Bytes_r0, f_custodyref05_Random_Bytes_r1, kT, kF, dT, dF, e1, e2]
  simp (maxSteps := 1000000) (disch := first | omega | (simp; done) | (simp; omega)) [W_id, bys_app, bys_snoc, f_custodyref05_Random_Bytes, f_custodyref05_Random_Bytes_r0, f_custodyref05_Random_Bytes_r1, f_custodyref05_Random_Bytes_r2, f_custodyref05_Random_Bytes_r3, f_custodyref05_Random_Bytes_r4, kT, kF, dT, dF]
  refine awp_name fun Q0 hQ0 => ?_
  refine awp_for (fun i : Nat => ⟨[(0, .agg [st s]), (1, i64 n)], [(5, .bp 5 0), (6, st (stN s i)), (7, .bp 7 0)], [(2, some [st s]), (5, some [st []]), (7, some [st (sdN s i)])]⟩) (fun i => 8000 - 32 * i) (fun i => i = 0 ∨ 32 * i < n.toNat + 32) 0 (by simp [stN, sdN]) (by simp) fun i hi => ?_
  refine awp_name fun Q1 hQ1 => ?_
  have hl := stN_len s i
  have hsd := sdN_len hs i
  have ev : stN s i ++ drv (sdN s i) valL [] = stN s (i + 1) := rfl
  have es : drv (sdN s i) seedL [] = sdN s (i + 1) := rfl
  by_cases h : 32 * i < n.toNat
  · simp (maxSteps := 1000000) (disch := first | omega | (simp; done) | (simp; omega)) [W_id, bys_app, bys_snoc, f_custodyref05_Random_Bytes_l0, f_custodyref05_Random_Bytes_r5, f_custodyref05_Random_Bytes_r6, f_custodyref05_Random_Bytes_r7, kT, kF, dT, dF, hl, h81, nxt_pre, ev, es, hQ1]
    exact ⟨by omega, i + 1, by omega, .inr (by omega), rfl, rfl⟩
  · have e1 : bysN s n = (stN s i).take n.toNat := by
      by_cases hz : n ≤ 0
      · rw [bysN, if_pos (.inl hz), show n.toNat = 0 by omega, List.take_zero]
      · rw [bysN, if_neg (by omega), show blkN n = i by unfold blkN; omega]
    have e2 : aftN s n = sdN s i := by
      by_cases hz : n ≤ 0
      · rw [aftN, if_pos (.inl hz), show i = 0 by omega]; rfl
      · rw [aftN, if_neg (by omega), show blkN n = i by unfold blkN; omega]
    simp (maxSteps := 1000000) (disch := first | omega | (simp; done) | (simp; omega)) [W_id, bys_app, bys_snoc, f_custodyref05_Random_Bytes_l0, f_custodyref05_Random_Bytes_r5, f_custodyref05_Random_Bytes_r8, kT, kF, dT, dF, hl, hQ1, hQ0, e1, e2]
    omega
theorem vals_ok (E : Env) (h75 : E.G 75 = nxtC) : ∀ x y l, valsC.pre x y → x.length = f_kdf_Random_values.nx ∧ y.length = f_kdf_Random_values.ny ∧ iwpL E l (valsC.el x y) f_kdf_Random_values.body (itQ (valsC.el x y)) (0, false) (itSt l x y) := by
  rintro _ _ l ⟨s, hs, rfl, rfl⟩
  have hel : ∀ i, valsC.el [.agg [st s]] [] i = some [st (vlN s i), .agg [st (sdN s (i + 1))]] := fun i => rfl
  refine ⟨rfl, rfl, ?_⟩
  generalize hQ : itQ (valsC.el [.agg [st s]] []) = Q
  have hdone : ∀ p st', p.2 = true → Q .normal p st' := fun p st' h => by rw [← hQ]; exact .inl h
  generalize valsC.el [.agg [st s]] [] = el at hel
  have hQx : ∀ p st', p.2 = true → Q .ret p st' := fun p st' h => by rw [← hQ]; exact .inl h
  simp (maxSteps := 1000000) (disch := first | omega | (simp; done) | (simp; omega)) [W_id, bys_app, bys_snoc, f_kdf_Random_values, f_kdf_Random_values_i4, f_kdf_Random_values_i3, itSt]
  refine iwp_name fun Q1 hQ1 => ?_
  refine iwp_loop (fun p st' => ∃ t, (p.2 = false → t = sdN s p.1) ∧ t.length < 1000000000 ∧ st' = ⟨[(0, AVal.agg [st s]), (1, AVal.lit (Value.func (Fn.yield l) #[] #[]))], [(2, .bp 2 0), (4, bo (!p.2))], [(2, some [st t])]⟩) ⟨s, fun _ => rfl, hs, rfl⟩ fun p st' ⟨t, ht, hlen, hst⟩ Q2 h2 hx => ?_
  obtain ⟨i, b⟩ := p
  subst hst
  cases b with
  | true =>
    simp (maxSteps := 1000000) (disch := first | omega | (simp; done) | (simp; omega)) [W_id, bys_app, bys_snoc, f_kdf_Random_values_i2, f_kdf_Random_values_p0, f_kdf_Random_values_r0, kT, kF, hx, hQ1]
    exact hdone _ _ rfl
  | false =>
    have ht' := ht rfl
    subst ht'
    simp (maxSteps := 1000000) (disch := first | omega | (simp; done) | (simp; omega)) [W_id, bys_app, bys_snoc, f_kdf_Random_values_i2, f_kdf_Random_values_p0, f_kdf_Random_values_r0, kT, kF, f_kdf_Random_values_i1, f_kdf_Random_values_p1, h75, nxt_pre]
    refine ⟨by rintro a b (⟨rfl, _⟩ | ⟨rfl, _⟩ | ⟨rfl, _⟩) <;> simp, ?_⟩
    simp (maxSteps := 1000000) (disch := first | omega | (simp; done) | (simp; omega)) [W_id, bys_app, bys_snoc, f_kdf_Random_values_i0, hel, or_imp, forall_and, and_imp, forall_eq]
    refine ⟨⟨rfl, rfl⟩, ?_, ?_⟩
    · exact h2 (i, true) _ ⟨_, by simp, by simp, rfl⟩ rfl (.inr rfl)
    · exact h2 (i + 1, false) _ ⟨_, fun _ => rfl, sdN_len hs _, rfl⟩ rfl (.inl rfl)
end Go.Abs
end

section
namespace Go.Abs
theorem take_two {a b : List UInt8} {m k i : Nat} (ha : a.length = i) (hm : m = i + k) : (a ++ b).take m = a ++ b.take k := by
  rw [List.take_append, List.take_of_length_le (by omega), ha, show m - i = k by omega]
set_option maxHeartbeats 4000000 in
theorem gbys_ok (E : Env) (hI73 : E.I 73 = valsC) : ∀ ds, gbysC.pre ds → ds.length = f_kdf_Random_Bytes.n ∧ awp E f_kdf_Random_Bytes.body (retQ f_kdf_Random_Bytes.res (gbysC.post ds)) (initSt f_kdf_Random_Bytes.wr ds) := by
  rintro _ ⟨s, n, hs, ⟨hn0, hn1⟩, rfl⟩
  rw [gbys_post]
  by_cases h0 : n ≤ 0
  · have e1 : bysN s n = [] := by rw [bysN, if_pos (.inl (by omega))]
    have e2 : aftN s n = s := by rw [aftN, if_pos (.inl (by omega))]
    simp (maxSteps := 1000000) (disch := first | omega | (simp; done) | (simp; omega)) [W_id, bys_app, bys_snoc, f_kdf_Random_Bytes, f_kdf_Random_Bytes_r0, f_kdf_Random_Bytes_r1, kT, kF, dT, dF, e1, e2]
  by_cases h1 : 8000 < n
  · have e1 : bysN s n = [] := by rw [bysN, if_pos (.inr h1)]
    have e2 : aftN s n = s := by rw [aftN, if_pos (.inr h1)]
    simp (maxSteps := 1000000) (disch := first | omega | (simp; done) | (simp; omega)) [W_id, bys_app, bys_snoc, f_kdf_Random_Bytes, f_kdf_Random_Bytes_r0, f_kdf_Random_Bytes_r1, kT, kF, dT, dF, e1, e2]
  simp (maxSteps := 1000000) (disch := first | omega | (simp; done) | (simp; omega)) [W_id, bys_app, bys_snoc, f_kdf_Random_Bytes, f_kdf_Random_Bytes_r0, f_kdf_Random_Bytes_r1, f_kdf_Random_Bytes_r2, f_kdf_Random_Bytes_r3, f_kdf_Random_Bytes_r4, f_kdf_Random_Bytes_r5, kT, kF, dT, dF]
  refine awp_name fun Q0 hQ0 => ?_
  refine ⟨[.agg [st s]], [], by simp, by simp, by rw [hI73]; exact ⟨s, hs, rfl, rfl⟩, by simp, 250, fun i bx => 32 * i < n.toNat ∧ ∃ nl, bx = [(2, some [st s]), (3, some [i64 n]), (5, some [st []]), (7, some [st (sdN s i)]), (1000006, some [.undef, .sl (.own 1) nl (32 * i) (bys (stN s i))])], ⟨by omega, some true, rfl⟩, fun i bx h => by omega, fun i bx h he => ?_, fun i bx xs hi he => ?_⟩
  · rw [hI73] at he
    cases he
  · rw [hI73] at he
    have he' : xs = [st (vlN s i), .agg [st (sdN s (i + 1))]] := (Option.some.inj he).symm
    subst he'
    obtain ⟨hi, nl, rfl⟩ := hi
    have hl := stN_len s i
    have hv : (vlN s i).length = 32 := drv_len _ _ _
    have hsd := sdN_len hs (i + 1)
    refine ⟨rfl, by simp, fun V => ?_⟩
    obtain ⟨k, hk, hk1⟩ : ∃ k : Nat, (if n - 32 * (i : Int) < 32 then n - 32 * (i : Int) else 32) = (k : Int) ∧ k = min (n.toNat - 32 * i) 32 := ⟨min (n.toNat - 32 * i) 32, by split <;> omega, rfl⟩
    have hmin : min k 32 = k := by omega
    by_cases hc : n.toNat ≤ 32 * i + 32
    · have hb : blkN n = i + 1 := blk_eq hi hc
      have e1 : bysN s n = stN s i ++ (vlN s i).take k := by
        rw [bysN, if_neg (by omega), hb, stN, take_two hl (show n.toNat = 32 * i + k by omega)]
      have e2 : aftN s n = sdN s (i + 1) := by rw [aftN, if_neg (by omega), hb]
      have hne : stN s i ++ (vlN s i).take k ≠ [] := by
        intro e
        have := congrArg List.length e
        simp [hl, hv] at this
        omega
      have hn : ((32 * i + k : Nat) : Int) = n := by omega
      simp (maxSteps := 1000000) (disch := first | omega | (simp; done) | (simp; omega)) [W_id, bys_app, bys_snoc, rngSt, rngEnv, f_kdf_Random_Bytes_a0, f_kdf_Random_Bytes_b0, f_kdf_Random_Bytes_r6, f_kdf_Random_Bytes_r7, f_kdf_Random_Bytes_r8, f_kdf_Random_Bytes_r9, kT, kF, dT, dF, ↓eff_minW, minW_i64, hk, hmin, bldOk0, bldOk1, bldOk3, hl, hv, hne, rngQ, rngEnd, hQ0, e1, e2, or_imp, forall_and, and_imp, forall_eq]
      omega
    · have hk2 : k = 32 := by omega
      subst hk2
      have ev : stN s i ++ vlN s i = stN s (i + 1) := rfl
      have hl1 : (stN s (i + 1)).length = 32 * i + 32 := by rw [stN_len]; omega
      have htk : (vlN s i).take 32 = vlN s i := by rw [← hv, List.take_length]
      simp (maxSteps := 1000000) (disch := first | omega | (simp; done) | (simp; omega)) [W_id, bys_app, bys_snoc, rngSt, rngEnv, f_kdf_Random_Bytes_a0, f_kdf_Random_Bytes_b0, f_kdf_Random_Bytes_r6, f_kdf_Random_Bytes_r7, f_kdf_Random_Bytes_r8, kT, kF, dT, dF, ↓eff_minW, minW_i64, hk, bldOk0, bldOk1, hl, hv, hl1, htk, ev, rngQ, rngEnd, or_imp, forall_and, and_imp, forall_eq]
      exact ⟨by omega, by omega⟩
end Go.Abs
end
