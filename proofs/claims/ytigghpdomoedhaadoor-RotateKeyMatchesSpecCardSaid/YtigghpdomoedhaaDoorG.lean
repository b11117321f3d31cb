/- Lemmas: an abstract interpreter, and what the functions compute. -/
import Derived.Test.YtigghpdomoedhaaDoorD
import Derived.Test.YtigghpdomoedhaaDoorE
import Derived.Test.YtigghpdomoedhaaDoorF
set_option linter.unusedSimpArgs false
set_option linter.unusedVariables false
set_option linter.unusedSectionVars false
section
namespace Go.Abs
set_option maxRecDepth 100000
def f_custodyref02_Mac : AFun :=
 { n := 2, wr := [], res := [.t 4], body :=
 .seq (
 .region [] [] [
 ⟨some 4, none, .mv false (.c (st []))⟩]) (
 .seq (
 .region [5] [] [
 ⟨some 7, none, .mv false (.s 0)⟩,
 ⟨some 8, none, .call 27 [(.s 7), (.c (u8 54))] []⟩,
 ⟨some 5, none, .mv true (.s 8)⟩]) (
 .seq (
 .region [5] [] [
 ⟨some 9, none, .mv true (.s 5)⟩,
 ⟨some 10, none, .mv false (.s 1)⟩,
 ⟨some 11, none, .append 1 1 true none none 9 (.s 10)⟩,
 ⟨some 5, none, .mv true (.s 11)⟩]) (
 .seq (
 .region [5, 6] [] [
 ⟨some 12, none, .mv false (.s 0)⟩,
 ⟨some 13, none, .call 27 [(.s 12), (.c (u8 92))] []⟩,
 ⟨some 6, none, .mv true (.s 13)⟩]) (
 .seq (
 .region [6] [] [
 ⟨some 14, none, .mv true (.s 6)⟩,
 ⟨some 15, none, .mv true (.s 5)⟩,
 ⟨some 16, none, .call 15 [(.s 15)] []⟩,
 ⟨some 17, none, .call 19 [(.s 16)] []⟩,
 ⟨some 18, none, .append 1 1 true none none 14 (.s 17)⟩,
 ⟨some 6, none, .mv true (.s 18)⟩]) (
 .seq (
 .region [4] [] [
 ⟨some 19, none, .mv true (.s 6)⟩,
 ⟨some 20, none, .call 15 [(.s 19)] []⟩,
 ⟨some 21, none, .call 19 [(.s 20)] []⟩,
 ⟨some 4, none, .mv false (.s 21)⟩]) (
 .ret)))))) }

def f_custodyref02_Bytes32 : AFun :=
 { n := 1, wr := [], res := [.t 2], body :=
 .seq (
 .region [1] [.norm [1]] [
 ⟨some 1, none, .box 1 (some 32) false (.s 0)⟩,
 ⟨some 2, none, .mv false (.c (st []))⟩]) (
 .seq (
 .region [1, 3] [] [
 ⟨some 3, none, .mv true (.c (.sl (.own 1) none 0 []))⟩]) (
 .seq (
 .seq (
 .region [1, 3, 4] [] [
 ⟨some 4, none, .mv false (.c (i64 0))⟩]) (
 .block 0 (
 .loop (
 .seq (
 .seq (
 .region [1, 3, 4, 6] [] [
 ⟨some 5, none, .mv false (.s 4)⟩,
 ⟨some 6, none, .bin .lss (.s 5) (.c (i64 32))⟩]) (
 .cond (.s 6) (
 .ghost (.keep [1, 3, 4]) .skip) (
 .ghost (.keep [3]) (.exit 0)))) (
 .seq (
 .block 1 (
 .region [1, 3, 4] [.norm [1]] [
 ⟨some 9, none, .mv true (.s 3)⟩,
 ⟨some 10, none, .mv false (.s 4)⟩,
 ⟨some 11, none, .idxArr 32 1 (.s 1) (.s 10)⟩,
 ⟨some 12, none, .load none (some 1) false (.s 11)⟩,
 ⟨some 13, none, .buildSl 1 1 [u8 0] [(0, 1, (.s 12))]⟩,
 ⟨some 14, none, .append 1 1 false none none 9 (.s 13)⟩,
 ⟨some 3, none, .mv true (.s 14)⟩])) (
 .region [1, 3, 4] [] [
 ⟨some 7, none, .mv false (.s 4)⟩,
 ⟨some 8, none, .bin .add (.s 7) (.c (i64 1))⟩,
 ⟨some 4, none, .mv false (.s 8)⟩])))))) (
 .seq (
 .region [2] [] [
 ⟨some 15, none, .mv true (.s 3)⟩,
 ⟨some 16, none, .toStr none (.s 15)⟩,
 ⟨some 2, none, .mv false (.s 16)⟩]) (
 .ret)))) }

def f_custodyref02_padded : AFun :=
 { n := 1, wr := [], res := [.t 2], body :=
 .seq (
 .region [] [] [
 ⟨some 2, none, .mv true (.c (.sl (.own 1) none 0 []))⟩]) (
 .seq (
 .region [3] [] [
 ⟨some 6, none, .buildSl 1 0 [] []⟩,
 ⟨some 7, none, .mv false (.s 0)⟩,
 ⟨some 8, none, .append 1 1 false (some false) none 6 (.s 7)⟩,
 ⟨some 3, none, .mv true (.s 8)⟩]) (
 .seq (
 .region [3] [] [
 ⟨some 9, none, .mv true (.s 3)⟩,
 ⟨some 10, none, .buildSl 1 1 [u8 0] [(0, 1, (.c (u8 128)))]⟩,
 ⟨some 11, none, .append 1 1 false (some false) none 9 (.s 10)⟩,
 ⟨some 3, none, .mv true (.s 11)⟩]) (
 .seq (
 .block 0 (
 .loop (
 .seq (
 .seq (
 .region [3, 15] [] [
 ⟨some 12, none, .mv false (.s 3)⟩,
 ⟨some 13, none, .len false (.s 12)⟩,
 ⟨some 14, none, .bin .rem (.s 13) (.c (i64 64))⟩,
 ⟨some 15, none, .bin .neq (.s 14) (.c (i64 56))⟩]) (
 .cond (.s 15) (
 .ghost (.keep [3]) .skip) (
 .ghost (.keep [3]) (.exit 0)))) (
 .block 1 (
 .region [3] [] [
 ⟨some 16, none, .mv true (.s 3)⟩,
 ⟨some 17, none, .buildSl 1 1 [u8 0] [(0, 1, (.c (u8 0)))]⟩,
 ⟨some 18, none, .append 1 1 false (some false) none 16 (.s 17)⟩,
 ⟨some 3, none, .mv true (.s 18)⟩]))))) (
 .seq (
 .region [3, 4] [] [
 ⟨some 19, none, .mv false (.s 0)⟩,
 ⟨some 20, none, .len false (.s 19)⟩,
 ⟨some 21, none, .toInt .u64 (.s 20)⟩,
 ⟨some 22, none, .bin .mul (.c (u64 8)) (.s 21)⟩,
 ⟨some 4, none, .mv false (.s 22)⟩]) (
 .seq (
 .seq (
 .region [3, 4, 5] [] [
 ⟨some 5, none, .mv false (.c (i64 0))⟩]) (
 .block 2 (
 .loop (
 .seq (
 .seq (
 .region [3, 4, 5, 24] [] [
 ⟨some 23, none, .mv false (.s 5)⟩,
 ⟨some 24, none, .bin .lss (.s 23) (.c (i64 8))⟩]) (
 .cond (.s 24) (
 .ghost (.keep [3, 4, 5]) .skip) (
 .ghost (.keep [3]) (.exit 2)))) (
 .seq (
 .block 3 (
 .region [3, 4, 5] [] [
 ⟨some 27, none, .mv true (.s 3)⟩,
 ⟨some 28, none, .mv false (.s 4)⟩,
 ⟨some 29, none, .mv false (.s 5)⟩,
 ⟨some 30, none, .bin .mul (.c (i64 8)) (.s 29)⟩,
 ⟨some 31, none, .bin .sub (.c (i64 56)) (.s 30)⟩,
 ⟨some 32, none, .bin .shr (.s 28) (.s 31)⟩,
 ⟨some 33, none, .toInt .u8 (.s 32)⟩,
 ⟨some 34, none, .buildSl 1 1 [u8 0] [(0, 1, (.s 33))]⟩,
 ⟨some 35, none, .append 1 1 false (some false) none 27 (.s 34)⟩,
 ⟨some 3, none, .mv true (.s 35)⟩])) (
 .region [3, 4, 5] [] [
 ⟨some 25, none, .mv false (.s 5)⟩,
 ⟨some 26, none, .bin .add (.s 25) (.c (i64 1))⟩,
 ⟨some 5, none, .mv false (.s 26)⟩])))))) (
 .seq (
 .region [2] [] [
 ⟨some 36, none, .mv true (.s 3)⟩,
 ⟨some 2, none, .mv true (.s 36)⟩]) (
 .ret))))))) }

def f_custodyref02_words : AFun :=
 { n := 1, wr := [], res := [.cell 2 (some 64) 2], body :=
 .seq (
 .region [2] [.norm [2]] [
 ⟨some 2, none, .alloc 2 (w32s (zeros32 64))⟩]) (
 .seq (
 .region [2, 3] [.norm [2, 3]] [
 ⟨some 3, none, .alloc 3 (w32s (zeros32 64))⟩]) (
 .seq (
 .seq (
 .region [2, 3, 4] [] [
 ⟨some 4, none, .mv false (.c (i64 0))⟩]) (
 .block 0 (
 .loop (
 .seq (
 .seq (
 .region [2, 3, 4, 9] [] [
 ⟨some 8, none, .mv false (.s 4)⟩,
 ⟨some 9, none, .bin .lss (.s 8) (.c (i64 16))⟩]) (
 .cond (.s 9) (
 .ghost (.keep [2, 3, 4]) .skip) (
 .ghost (.keep [2, 3]) (.exit 0)))) (
 .seq (
 .block 1 (
 .region [2, 3, 4] [.norm [2, 3]] [
 ⟨some 12, none, .mv false (.s 4)⟩,
 ⟨some 13, none, .mv false (.s 0)⟩,
 ⟨some 14, none, .mv false (.s 4)⟩,
 ⟨some 15, none, .bin .mul (.c (i64 4)) (.s 14)⟩,
 ⟨some 16, none, .idxSl 1 (.s 13) (.s 15)⟩,
 ⟨some 17, none, .load none none false (.s 16)⟩,
 ⟨some 18, none, .toInt .u32 (.s 17)⟩,
 ⟨some 19, none, .bin .shl (.s 18) (.c (u64 24))⟩,
 ⟨some 20, none, .mv false (.s 0)⟩,
 ⟨some 21, none, .mv false (.s 4)⟩,
 ⟨some 22, none, .bin .mul (.c (i64 4)) (.s 21)⟩,
 ⟨some 23, none, .bin .add (.s 22) (.c (i64 1))⟩,
 ⟨some 24, none, .idxSl 1 (.s 20) (.s 23)⟩,
 ⟨some 25, none, .load none none false (.s 24)⟩,
 ⟨some 26, none, .toInt .u32 (.s 25)⟩,
 ⟨some 27, none, .bin .shl (.s 26) (.c (u64 16))⟩,
 ⟨some 28, none, .bin .or (.s 19) (.s 27)⟩,
 ⟨some 29, none, .mv false (.s 0)⟩,
 ⟨some 30, none, .mv false (.s 4)⟩,
 ⟨some 31, none, .bin .mul (.c (i64 4)) (.s 30)⟩,
 ⟨some 32, none, .bin .add (.s 31) (.c (i64 2))⟩,
 ⟨some 33, none, .idxSl 1 (.s 29) (.s 32)⟩,
 ⟨some 34, none, .load none none false (.s 33)⟩,
 ⟨some 35, none, .toInt .u32 (.s 34)⟩,
 ⟨some 36, none, .bin .shl (.s 35) (.c (u64 8))⟩,
 ⟨some 37, none, .bin .or (.s 28) (.s 36)⟩,
 ⟨some 38, none, .mv false (.s 0)⟩,
 ⟨some 39, none, .mv false (.s 4)⟩,
 ⟨some 40, none, .bin .mul (.c (i64 4)) (.s 39)⟩,
 ⟨some 41, none, .bin .add (.s 40) (.c (i64 3))⟩,
 ⟨some 42, none, .idxSl 1 (.s 38) (.s 41)⟩,
 ⟨some 43, none, .load none none false (.s 42)⟩,
 ⟨some 44, none, .toInt .u32 (.s 43)⟩,
 ⟨some 45, none, .bin .or (.s 37) (.s 44)⟩,
 ⟨some 46, none, .idxArr 64 1 (.s 3) (.s 12)⟩,
 ⟨none, none, .store none 3 false (.s 46) (.s 45)⟩])) (
 .region [2, 3, 4] [] [
 ⟨some 10, none, .mv false (.s 4)⟩,
 ⟨some 11, none, .bin .add (.s 10) (.c (i64 1))⟩,
 ⟨some 4, none, .mv false (.s 11)⟩])))))) (
 .seq (
 .seq (
 .region [2, 3, 5] [] [
 ⟨some 5, none, .mv false (.c (i64 16))⟩]) (
 .block 2 (
 .loop (
 .seq (
 .seq (
 .region [2, 3, 5, 48] [] [
 ⟨some 47, none, .mv false (.s 5)⟩,
 ⟨some 48, none, .bin .lss (.s 47) (.c (i64 64))⟩]) (
 .cond (.s 48) (
 .ghost (.keep [2, 3, 5]) .skip) (
 .ghost (.keep [2, 3]) (.exit 2)))) (
 .seq (
 .block 3 (
 .seq (
 .region [2, 3, 5, 6] [.norm [2, 3]] [
 ⟨some 51, none, .mv false (.s 5)⟩,
 ⟨some 52, none, .bin .sub (.s 51) (.c (i64 15))⟩,
 ⟨some 53, none, .idxArr 64 1 (.s 3) (.s 52)⟩,
 ⟨some 54, none, .load none (some 3) false (.s 53)⟩,
 ⟨some 55, none, .call 26 [(.s 54), (.c (i64 7))] []⟩,
 ⟨some 56, none, .mv false (.s 5)⟩,
 ⟨some 57, none, .bin .sub (.s 56) (.c (i64 15))⟩,
 ⟨some 58, none, .idxArr 64 1 (.s 3) (.s 57)⟩,
 ⟨some 59, none, .load none (some 3) false (.s 58)⟩,
 ⟨some 60, none, .call 26 [(.s 59), (.c (i64 18))] []⟩,
 ⟨some 61, none, .bin .xor (.s 55) (.s 60)⟩,
 ⟨some 62, none, .mv false (.s 5)⟩,
 ⟨some 63, none, .bin .sub (.s 62) (.c (i64 15))⟩,
 ⟨some 64, none, .idxArr 64 1 (.s 3) (.s 63)⟩,
 ⟨some 65, none, .load none (some 3) false (.s 64)⟩,
 ⟨some 66, none, .bin .shr (.s 65) (.c (u64 3))⟩,
 ⟨some 67, none, .bin .xor (.s 61) (.s 66)⟩,
 ⟨some 6, none, .mv false (.s 67)⟩]) (
 .seq (
 .region [2, 3, 5, 6, 7] [.norm [2, 3]] [
 ⟨some 68, none, .mv false (.s 5)⟩,
 ⟨some 69, none, .bin .sub (.s 68) (.c (i64 2))⟩,
 ⟨some 70, none, .idxArr 64 1 (.s 3) (.s 69)⟩,
 ⟨some 71, none, .load none (some 3) false (.s 70)⟩,
 ⟨some 72, none, .call 26 [(.s 71), (.c (i64 17))] []⟩,
 ⟨some 73, none, .mv false (.s 5)⟩,
 ⟨some 74, none, .bin .sub (.s 73) (.c (i64 2))⟩,
 ⟨some 75, none, .idxArr 64 1 (.s 3) (.s 74)⟩,
 ⟨some 76, none, .load none (some 3) false (.s 75)⟩,
 ⟨some 77, none, .call 26 [(.s 76), (.c (i64 19))] []⟩,
 ⟨some 78, none, .bin .xor (.s 72) (.s 77)⟩,
 ⟨some 79, none, .mv false (.s 5)⟩,
 ⟨some 80, none, .bin .sub (.s 79) (.c (i64 2))⟩,
 ⟨some 81, none, .idxArr 64 1 (.s 3) (.s 80)⟩,
 ⟨some 82, none, .load none (some 3) false (.s 81)⟩,
 ⟨some 83, none, .bin .shr (.s 82) (.c (u64 10))⟩,
 ⟨some 84, none, .bin .xor (.s 78) (.s 83)⟩,
 ⟨some 7, none, .mv false (.s 84)⟩]) (
 .region [2, 3, 5] [.norm [2, 3]] [
 ⟨some 85, none, .mv false (.s 5)⟩,
 ⟨some 86, none, .mv false (.s 5)⟩,
 ⟨some 87, none, .bin .sub (.s 86) (.c (i64 16))⟩,
 ⟨some 88, none, .idxArr 64 1 (.s 3) (.s 87)⟩,
 ⟨some 89, none, .load none (some 3) false (.s 88)⟩,
 ⟨some 90, none, .mv false (.s 6)⟩,
 ⟨some 91, none, .bin .add (.s 89) (.s 90)⟩,
 ⟨some 92, none, .mv false (.s 5)⟩,
 ⟨some 93, none, .bin .sub (.s 92) (.c (i64 7))⟩,
 ⟨some 94, none, .idxArr 64 1 (.s 3) (.s 93)⟩,
 ⟨some 95, none, .load none (some 3) false (.s 94)⟩,
 ⟨some 96, none, .bin .add (.s 91) (.s 95)⟩,
 ⟨some 97, none, .mv false (.s 7)⟩,
 ⟨some 98, none, .bin .add (.s 96) (.s 97)⟩,
 ⟨some 99, none, .idxArr 64 1 (.s 3) (.s 85)⟩,
 ⟨none, none, .store none 3 false (.s 99) (.s 98)⟩])))) (
 .region [2, 3, 5] [] [
 ⟨some 49, none, .mv false (.s 5)⟩,
 ⟨some 50, none, .bin .add (.s 49) (.c (i64 1))⟩,
 ⟨some 5, none, .mv false (.s 50)⟩])))))) (
 .seq (
 .region [2] [.norm [2, 3]] [
 ⟨some 100, none, .load (some 64) (some 3) false (.s 3)⟩,
 ⟨none, none, .store (some 64) 2 false (.s 2) (.s 100)⟩]) (
 .ret))))) }

def f_custodyref02_rotr : AFun :=
 { n := 2, wr := [], res := [.t 4], body :=
 .seq (
 .region [] [] [
 ⟨some 4, none, .mv false (.c (u32 0))⟩]) (
 .seq (
 .region [4] [] [
 ⟨some 5, none, .mv false (.s 0)⟩,
 ⟨some 6, none, .mv false (.s 1)⟩,
 ⟨some 7, none, .bin .shr (.s 5) (.s 6)⟩,
 ⟨some 8, none, .mv false (.s 0)⟩,
 ⟨some 9, none, .mv false (.s 1)⟩,
 ⟨some 10, none, .bin .sub (.c (i64 32)) (.s 9)⟩,
 ⟨some 11, none, .bin .shl (.s 8) (.s 10)⟩,
 ⟨some 12, none, .bin .or (.s 7) (.s 11)⟩,
 ⟨some 4, none, .mv false (.s 12)⟩]) (
 .ret)) }

def f_custodyref02_padKey : AFun :=
 { n := 2, wr := [], res := [.t 4], body :=
 .seq (
 .region [] [] [
 ⟨some 4, none, .mv true (.c (.sl (.own 1) none 0 []))⟩]) (
 .seq (
 .region [5] [] [
 ⟨some 9, none, .mv false (.s 0)⟩,
 ⟨some 5, none, .mv false (.s 9)⟩]) (
 .seq (
 .seq (
 .region [5, 12] [] [
 ⟨some 10, none, .mv false (.s 0)⟩,
 ⟨some 11, none, .len true (.s 10)⟩,
 ⟨some 12, none, .bin .gtr (.s 11) (.c (i64 64))⟩]) (
 .cond (.s 12) (
 .region [5] [] [
 ⟨some 13, none, .mv false (.s 0)⟩,
 ⟨some 14, none, .toBytes (.s 13)⟩,
 ⟨some 15, none, .call 15 [(.s 14)] []⟩,
 ⟨some 16, none, .call 19 [(.s 15)] []⟩,
 ⟨some 5, none, .mv false (.s 16)⟩]) (
 .ghost (.keep [5]) .skip))) (
 .seq (
 .region [5, 6] [] [
 ⟨some 6, none, .mv true (.c (.sl (.own 1) none 0 []))⟩]) (
 .seq (
 .seq (
 .region [5, 6, 7] [] [
 ⟨some 7, none, .mv false (.c (i64 0))⟩]) (
 .block 0 (
 .loop (
 .seq (
 .seq (
 .region [5, 6, 7, 18] [] [
 ⟨some 17, none, .mv false (.s 7)⟩,
 ⟨some 18, none, .bin .lss (.s 17) (.c (i64 64))⟩]) (
 .cond (.s 18) (
 .ghost (.keep [5, 6, 7]) .skip) (
 .ghost (.keep [6]) (.exit 0)))) (
 .seq (
 .block 1 (
 .seq (
 .region [5, 6, 7, 8] [] [
 ⟨some 8, none, .mv false (.c (u8 0))⟩]) (
 .seq (
 .seq (
 .region [5, 6, 7, 8, 24] [] [
 ⟨some 21, none, .mv false (.s 7)⟩,
 ⟨some 22, none, .mv false (.s 5)⟩,
 ⟨some 23, none, .len true (.s 22)⟩,
 ⟨some 24, none, .bin .lss (.s 21) (.s 23)⟩]) (
 .cond (.s 24) (
 .region [5, 6, 7, 8] [] [
 ⟨some 25, none, .mv false (.s 5)⟩,
 ⟨some 26, none, .mv false (.s 7)⟩,
 ⟨some 27, none, .idxStr (.s 25) (.s 26)⟩,
 ⟨some 8, none, .mv false (.s 27)⟩]) (
 .ghost (.keep [5, 6, 7, 8]) .skip))) (
 .region [5, 6, 7] [] [
 ⟨some 28, none, .mv true (.s 6)⟩,
 ⟨some 29, none, .mv false (.s 8)⟩,
 ⟨some 30, none, .mv false (.s 1)⟩,
 ⟨some 31, none, .bin .xor (.s 29) (.s 30)⟩,
 ⟨some 32, none, .buildSl 1 1 [u8 0] [(0, 1, (.s 31))]⟩,
 ⟨some 33, none, .append 1 1 false none none 28 (.s 32)⟩,
 ⟨some 6, none, .mv true (.s 33)⟩])))) (
 .region [5, 6, 7] [] [
 ⟨some 19, none, .mv false (.s 7)⟩,
 ⟨some 20, none, .bin .add (.s 19) (.c (i64 1))⟩,
 ⟨some 7, none, .mv false (.s 20)⟩])))))) (
 .seq (
 .region [4] [] [
 ⟨some 34, none, .mv true (.s 6)⟩,
 ⟨some 4, none, .mv true (.s 34)⟩]) (
 .ret)))))) }

def f_custodyref01_Bytes : AFun :=
 { n := 1, wr := [], res := [.t 2], body :=
 .seq (
 .region [] [] [
 ⟨some 2, none, .mv true (.c (.sl (.own 1) none 0 []))⟩]) (
 .seq (
 .region [2] [] [
 ⟨some 3, none, .mv false (.s 0)⟩,
 ⟨some 4, none, .len true (.s 3)⟩,
 ⟨some 5, none, .call 30 [(.s 4)] []⟩,
 ⟨some 6, none, .mv false (.s 0)⟩,
 ⟨some 7, none, .toBytes (.s 6)⟩,
 ⟨some 8, none, .append 1 1 false none none 5 (.s 7)⟩,
 ⟨some 2, none, .mv true (.s 8)⟩]) (
 .ret)) }

end Go.Abs
end

section
namespace Go.Abs
set_option maxRecDepth 100000
def f_custodyref02_Sum_r1 : ACode :=
 .seq (
 .block 3 (
 .seq (
 .region [2, 3, 4, 5, 6, 7, 8, 9] [.norm [2, 3, 6, 7]] [
 ⟨some 34, none, .idxArr 8 1 (.s 7) (.c (i64 7))⟩,
 ⟨some 35, none, .load none (some 7) false (.s 34)⟩,
 ⟨some 36, none, .idxArr 8 1 (.s 7) (.c (i64 4))⟩,
 ⟨some 37, none, .load none (some 7) false (.s 36)⟩,
 ⟨some 38, none, .call 26 [(.s 37), (.c (i64 6))] []⟩,
 ⟨some 39, none, .idxArr 8 1 (.s 7) (.c (i64 4))⟩,
 ⟨some 40, none, .load none (some 7) false (.s 39)⟩,
 ⟨some 41, none, .call 26 [(.s 40), (.c (i64 11))] []⟩,
 ⟨some 42, none, .bin .xor (.s 38) (.s 41)⟩,
 ⟨some 43, none, .idxArr 8 1 (.s 7) (.c (i64 4))⟩,
 ⟨some 44, none, .load none (some 7) false (.s 43)⟩,
 ⟨some 45, none, .call 26 [(.s 44), (.c (i64 25))] []⟩,
 ⟨some 46, none, .bin .xor (.s 42) (.s 45)⟩,
 ⟨some 47, none, .bin .add (.s 35) (.s 46)⟩,
 ⟨some 48, none, .idxArr 8 1 (.s 7) (.c (i64 4))⟩,
 ⟨some 49, none, .load none (some 7) false (.s 48)⟩,
 ⟨some 50, none, .idxArr 8 1 (.s 7) (.c (i64 5))⟩,
 ⟨some 51, none, .load none (some 7) false (.s 50)⟩,
 ⟨some 52, none, .bin .and (.s 49) (.s 51)⟩,
 ⟨some 53, none, .idxArr 8 1 (.s 7) (.c (i64 4))⟩,
 ⟨some 54, none, .load none (some 7) false (.s 53)⟩,
 ⟨some 55, none, .bin .xor (.s 54) (.c (u32 4294967295))⟩,
 ⟨some 56, none, .idxArr 8 1 (.s 7) (.c (i64 6))⟩,
 ⟨some 57, none, .load none (some 7) false (.s 56)⟩,
 ⟨some 58, none, .bin .and (.s 55) (.s 57)⟩,
 ⟨some 59, none, .bin .xor (.s 52) (.s 58)⟩,
 ⟨some 60, none, .bin .add (.s 47) (.s 59)⟩,
 ⟨some 61, none, .mv false (.s 8)⟩,
 ⟨some 62, none, .idxArr 64 1 (.g 1) (.s 61)⟩,
 ⟨some 63, none, .load none none false (.s 62)⟩,
 ⟨some 64, none, .bin .add (.s 60) (.s 63)⟩,
 ⟨some 65, none, .mv false (.s 8)⟩,
 ⟨some 66, none, .idxArr 64 1 (.s 6) (.s 65)⟩,
 ⟨some 67, none, .load none (some 6) false (.s 66)⟩,
 ⟨some 68, none, .bin .add (.s 64) (.s 67)⟩,
 ⟨some 9, none, .mv false (.s 68)⟩]) (
 .seq (
 .region [2, 3, 4, 5, 6, 7, 8, 9, 10] [.norm [2, 3, 6, 7]] [
 ⟨some 69, none, .idxArr 8 1 (.s 7) (.c (i64 0))⟩,
 ⟨some 70, none, .load none (some 7) false (.s 69)⟩,
 ⟨some 71, none, .call 26 [(.s 70), (.c (i64 2))] []⟩,
 ⟨some 72, none, .idxArr 8 1 (.s 7) (.c (i64 0))⟩,
 ⟨some 73, none, .load none (some 7) false (.s 72)⟩,
 ⟨some 74, none, .call 26 [(.s 73), (.c (i64 13))] []⟩,
 ⟨some 75, none, .bin .xor (.s 71) (.s 74)⟩,
 ⟨some 76, none, .idxArr 8 1 (.s 7) (.c (i64 0))⟩,
 ⟨some 77, none, .load none (some 7) false (.s 76)⟩,
 ⟨some 78, none, .call 26 [(.s 77), (.c (i64 22))] []⟩,
 ⟨some 79, none, .bin .xor (.s 75) (.s 78)⟩,
 ⟨some 80, none, .idxArr 8 1 (.s 7) (.c (i64 0))⟩,
 ⟨some 81, none, .load none (some 7) false (.s 80)⟩,
 ⟨some 82, none, .idxArr 8 1 (.s 7) (.c (i64 1))⟩,
 ⟨some 83, none, .load none (some 7) false (.s 82)⟩,
 ⟨some 84, none, .bin .and (.s 81) (.s 83)⟩,
 ⟨some 85, none, .idxArr 8 1 (.s 7) (.c (i64 0))⟩,
 ⟨some 86, none, .load none (some 7) false (.s 85)⟩,
 ⟨some 87, none, .idxArr 8 1 (.s 7) (.c (i64 2))⟩,
 ⟨some 88, none, .load none (some 7) false (.s 87)⟩,
 ⟨some 89, none, .bin .and (.s 86) (.s 88)⟩,
 ⟨some 90, none, .bin .xor (.s 84) (.s 89)⟩,
 ⟨some 91, none, .idxArr 8 1 (.s 7) (.c (i64 1))⟩,
 ⟨some 92, none, .load none (some 7) false (.s 91)⟩,
 ⟨some 93, none, .idxArr 8 1 (.s 7) (.c (i64 2))⟩,
 ⟨some 94, none, .load none (some 7) false (.s 93)⟩,
 ⟨some 95, none, .bin .and (.s 92) (.s 94)⟩,
 ⟨some 96, none, .bin .xor (.s 90) (.s 95)⟩,
 ⟨some 97, none, .bin .add (.s 79) (.s 96)⟩,
 ⟨some 10, none, .mv false (.s 97)⟩]) (
 .region [2, 3, 4, 5, 6, 7, 8] [.norm [2, 3, 6, 7]] [
 ⟨some 98, none, .mv false (.s 9)⟩,
 ⟨some 99, none, .mv false (.s 10)⟩,
 ⟨some 100, none, .bin .add (.s 98) (.s 99)⟩,
 ⟨some 101, none, .idxArr 8 1 (.s 7) (.c (i64 0))⟩,
 ⟨some 102, none, .load none (some 7) false (.s 101)⟩,
 ⟨some 103, none, .idxArr 8 1 (.s 7) (.c (i64 1))⟩,
 ⟨some 104, none, .load none (some 7) false (.s 103)⟩,
 ⟨some 105, none, .idxArr 8 1 (.s 7) (.c (i64 2))⟩,
 ⟨some 106, none, .load none (some 7) false (.s 105)⟩,
 ⟨some 107, none, .idxArr 8 1 (.s 7) (.c (i64 3))⟩,
 ⟨some 108, none, .load none (some 7) false (.s 107)⟩,
 ⟨some 109, none, .mv false (.s 9)⟩,
 ⟨some 110, none, .bin .add (.s 108) (.s 109)⟩,
 ⟨some 111, none, .idxArr 8 1 (.s 7) (.c (i64 4))⟩,
 ⟨some 112, none, .load none (some 7) false (.s 111)⟩,
 ⟨some 113, none, .idxArr 8 1 (.s 7) (.c (i64 5))⟩,
 ⟨some 114, none, .load none (some 7) false (.s 113)⟩,
 ⟨some 115, none, .idxArr 8 1 (.s 7) (.c (i64 6))⟩,
 ⟨some 116, none, .load none (some 7) false (.s 115)⟩,
 ⟨some 117, none, .build [u32 0, u32 0, u32 0, u32 0, u32 0, u32 0, u32 0, u32 0] [(0, 1, (.s 100)), (1, 1, (.s 102)), (2, 1, (.s 104)), (3, 1, (.s 106)), (4, 1, (.s 110)), (5, 1, (.s 112)), (6, 1, (.s 114)), (7, 1, (.s 116))]⟩,
 ⟨none, none, .store (some 8) 7 false (.s 7) (.s 117)⟩])))) (
 .region [2, 3, 4, 5, 6, 7, 8] [] [
 ⟨some 32, none, .mv false (.s 8)⟩,
 ⟨some 33, none, .bin .add (.s 32) (.c (i64 1))⟩,
 ⟨some 8, none, .mv false (.s 33)⟩])
def f_custodyref02_Sum_l1 : ACode :=
 .seq (
 .seq (
 .region [2, 3, 4, 5, 6, 7, 8, 31] [] [
 ⟨some 30, none, .mv false (.s 8)⟩,
 ⟨some 31, none, .bin .lss (.s 30) (.c (i64 64))⟩]) (
 .cond (.s 31) (
 .ghost (.keep [2, 3, 4, 5, 6, 7, 8]) .skip) (
 .ghost (.keep [2, 3, 4, 5, 7]) (.exit 2)))) (
 f_custodyref02_Sum_r1)
def f_custodyref02_Sum_r3 : ACode :=
 .seq (
 .block 5 (
 .region [2, 3, 4, 5, 7, 11] [.norm [2, 3, 6, 7]] [
 ⟨some 122, none, .mv false (.s 11)⟩,
 ⟨some 123, none, .mv false (.s 11)⟩,
 ⟨some 124, none, .idxArr 8 1 (.s 3) (.s 123)⟩,
 ⟨some 125, none, .load none (some 3) false (.s 124)⟩,
 ⟨some 126, none, .mv false (.s 11)⟩,
 ⟨some 127, none, .idxArr 8 1 (.s 7) (.s 126)⟩,
 ⟨some 128, none, .load none (some 7) false (.s 127)⟩,
 ⟨some 129, none, .bin .add (.s 125) (.s 128)⟩,
 ⟨some 130, none, .idxArr 8 1 (.s 3) (.s 122)⟩,
 ⟨none, none, .store none 3 false (.s 130) (.s 129)⟩])) (
 .region [2, 3, 4, 5, 7, 11] [] [
 ⟨some 120, none, .mv false (.s 11)⟩,
 ⟨some 121, none, .bin .add (.s 120) (.c (i64 1))⟩,
 ⟨some 11, none, .mv false (.s 121)⟩])
def f_custodyref02_Sum_l2 : ACode :=
 .seq (
 .seq (
 .region [2, 3, 4, 5, 7, 11, 119] [] [
 ⟨some 118, none, .mv false (.s 11)⟩,
 ⟨some 119, none, .bin .lss (.s 118) (.c (i64 8))⟩]) (
 .cond (.s 119) (
 .ghost (.keep [2, 3, 4, 5, 7, 11]) .skip) (
 .ghost (.keep [2, 3, 4, 5]) (.exit 4)))) (
 f_custodyref02_Sum_r3)
def f_custodyref02_Sum_r2 : ACode :=
 .seq (
 .region [2, 3, 4, 5, 7, 11] [] [
 ⟨some 11, none, .mv false (.c (i64 0))⟩]) (
 .block 4 (
 .loop f_custodyref02_Sum_l2))
def f_custodyref02_Sum_r0 : ACode :=
 .seq (
 .block 1 (
 .seq (
 .region [2, 3, 4, 5, 6] [.norm [2, 3, 6]] [
 ⟨some 23, none, .mv false (.s 4)⟩,
 ⟨some 24, none, .mv false (.s 5)⟩,
 ⟨some 25, none, .mv false (.s 5)⟩,
 ⟨some 26, none, .bin .add (.s 25) (.c (i64 64))⟩,
 ⟨some 27, none, .slSl 1 (.s 23) (some (.s 24)) (some (.s 26)) none⟩,
 ⟨some 28, none, .call 25 [(.s 27)] []⟩,
 ⟨some 6, none, .alloc 6 (w32s (zeros32 64))⟩,
 ⟨none, none, .store (some 64) 6 false (.s 6) (.s 28)⟩]) (
 .seq (
 .region [2, 3, 4, 5, 6, 7] [.norm [2, 3, 6, 7]] [
 ⟨some 29, none, .load (some 8) (some 3) false (.s 3)⟩,
 ⟨some 7, none, .alloc 7 (w32s (zeros32 8))⟩,
 ⟨none, none, .store (some 8) 7 false (.s 7) (.s 29)⟩]) (
 .seq (
 .seq (
 .region [2, 3, 4, 5, 6, 7, 8] [] [
 ⟨some 8, none, .mv false (.c (i64 0))⟩]) (
 .block 2 (
 .loop f_custodyref02_Sum_l1))) (
 f_custodyref02_Sum_r2))))) (
 .region [2, 3, 4, 5] [.drop [6, 7]] [
 ⟨some 21, none, .mv false (.s 5)⟩,
 ⟨some 22, none, .bin .add (.s 21) (.c (i64 64))⟩,
 ⟨some 5, none, .mv false (.s 22)⟩])
def f_custodyref02_Sum_l0 : ACode :=
 .seq (
 .seq (
 .region [2, 3, 4, 5, 20] [] [
 ⟨some 17, none, .mv false (.s 5)⟩,
 ⟨some 18, none, .mv false (.s 4)⟩,
 ⟨some 19, none, .len false (.s 18)⟩,
 ⟨some 20, none, .bin .lss (.s 17) (.s 19)⟩]) (
 .cond (.s 20) (
 .ghost (.keep [2, 3, 4, 5]) .skip) (
 .ghost (.keep [2, 3]) (.exit 0)))) (
 f_custodyref02_Sum_r0)
def f_custodyref02_Sum_r5 : ACode :=
 .seq (
 .block 7 (
 .region [2, 3, 12, 13] [.norm [2, 3, 6, 7, 12]] [
 ⟨some 135, none, .mv false (.s 13)⟩,
 ⟨some 136, none, .mv false (.s 13)⟩,
 ⟨some 137, none, .bin .quo (.s 136) (.c (i64 4))⟩,
 ⟨some 138, none, .idxArr 8 1 (.s 3) (.s 137)⟩,
 ⟨some 139, none, .load none (some 3) false (.s 138)⟩,
 ⟨some 140, none, .mv false (.s 13)⟩,
 ⟨some 141, none, .bin .rem (.s 140) (.c (i64 4))⟩,
 ⟨some 142, none, .bin .mul (.c (i64 8)) (.s 141)⟩,
 ⟨some 143, none, .bin .sub (.c (i64 24)) (.s 142)⟩,
 ⟨some 144, none, .bin .shr (.s 139) (.s 143)⟩,
 ⟨some 145, none, .toInt .u8 (.s 144)⟩,
 ⟨some 146, none, .idxArr 32 1 (.s 12) (.s 135)⟩,
 ⟨none, none, .store none 12 false (.s 146) (.s 145)⟩])) (
 .region [2, 3, 12, 13] [] [
 ⟨some 133, none, .mv false (.s 13)⟩,
 ⟨some 134, none, .bin .add (.s 133) (.c (i64 1))⟩,
 ⟨some 13, none, .mv false (.s 134)⟩])
def f_custodyref02_Sum_l3 : ACode :=
 .seq (
 .seq (
 .region [2, 3, 12, 13, 132] [] [
 ⟨some 131, none, .mv false (.s 13)⟩,
 ⟨some 132, none, .bin .lss (.s 131) (.c (i64 32))⟩]) (
 .cond (.s 132) (
 .ghost (.keep [2, 3, 12, 13]) .skip) (
 .ghost (.keep [2, 12]) (.exit 6)))) (
 f_custodyref02_Sum_r5)
def f_custodyref02_Sum_r6 : ACode :=
 .seq (
 .region [2] [.norm [2, 3, 6, 7, 12]] [
 ⟨some 147, none, .load (some 32) (some 12) false (.s 12)⟩,
 ⟨none, none, .store (some 32) 2 false (.s 2) (.s 147)⟩]) (
 .ret)
def f_custodyref02_Sum_r4 : ACode :=
 .seq (
 .region [2, 3, 12] [.norm [2, 3, 6, 7, 12]] [
 ⟨some 12, none, .alloc 12 (bys (zeros 32))⟩]) (
 .seq (
 .seq (
 .region [2, 3, 12, 13] [] [
 ⟨some 13, none, .mv false (.c (i64 0))⟩]) (
 .block 6 (
 .loop f_custodyref02_Sum_l3))) (
 f_custodyref02_Sum_r6))
def f_custodyref02_Sum : AFun :=
 { n := 1, wr := [], res := [.cell 2 (some 32) 2], body :=
 .seq (
 .region [2] [.norm [2]] [
 ⟨some 2, none, .alloc 2 (bys (zeros 32))⟩]) (
 .seq (
 .region [2, 3] [.norm [2, 3]] [
 ⟨some 14, none, .build [u32 0, u32 0, u32 0, u32 0, u32 0, u32 0, u32 0, u32 0] [(0, 1, (.c (u32 1779033703))), (1, 1, (.c (u32 3144134277))), (2, 1, (.c (u32 1013904242))), (3, 1, (.c (u32 2773480762))), (4, 1, (.c (u32 1359893119))), (5, 1, (.c (u32 2600822924))), (6, 1, (.c (u32 528734635))), (7, 1, (.c (u32 1541459225)))]⟩,
 ⟨some 3, none, .alloc 3 (w32s (zeros32 8))⟩,
 ⟨none, none, .store (some 8) 3 false (.s 3) (.s 14)⟩]) (
 .seq (
 .region [2, 3, 4] [] [
 ⟨some 15, none, .mv false (.s 0)⟩,
 ⟨some 16, none, .call 24 [(.s 15)] []⟩,
 ⟨some 4, none, .mv true (.s 16)⟩]) (
 .seq (
 .seq (
 .region [2, 3, 4, 5] [] [
 ⟨some 5, none, .mv false (.c (i64 0))⟩]) (
 .block 0 (
 .loop f_custodyref02_Sum_l0))) (
 f_custodyref02_Sum_r4)))) }

def f_custodyref01_Int_r1 : ACode :=
 .block 1 (
 .seq (
 .region [3, 4] [] [
 ⟨some 16, none, .mv true (.s 4)⟩,
 ⟨some 17, none, .mv false (.s 3)⟩,
 ⟨some 18, none, .bin .rem (.s 17) (.c (i64 256))⟩,
 ⟨some 19, none, .toInt .u8 (.s 18)⟩,
 ⟨some 20, none, .buildSl 1 1 [u8 0] [(0, 1, (.s 19))]⟩,
 ⟨some 21, none, .append 1 1 false none none 16 (.s 20)⟩,
 ⟨some 4, none, .mv true (.s 21)⟩]) (
 .region [3, 4] [] [
 ⟨some 22, none, .mv false (.s 3)⟩,
 ⟨some 23, none, .bin .quo (.s 22) (.c (i64 256))⟩,
 ⟨some 3, none, .mv false (.s 23)⟩]))
def f_custodyref01_Int_l0 : ACode :=
 .seq (
 .seq (
 .region [3, 4, 15] [] [
 ⟨some 14, none, .mv false (.s 3)⟩,
 ⟨some 15, none, .bin .gtr (.s 14) (.c (i64 0))⟩]) (
 .cond (.s 15) (
 .ghost (.keep [3, 4]) .skip) (
 .ghost (.keep [4]) (.exit 0)))) (
 f_custodyref01_Int_r1)
def f_custodyref01_Int_r5 : ACode :=
 .region [4, 6, 7] [] [
 ⟨some 54, none, .mv true (.s 6)⟩,
 ⟨some 55, none, .mv false (.s 8)⟩,
 ⟨some 56, none, .buildSl 1 1 [u8 0] [(0, 1, (.s 55))]⟩,
 ⟨some 57, none, .append 1 1 false none none 54 (.s 56)⟩,
 ⟨some 6, none, .mv true (.s 57)⟩]
def f_custodyref01_Int_r4 : ACode :=
 .seq (
 .block 3 (
 .seq (
 .region [4, 6, 7, 8] [] [
 ⟨some 46, none, .mv false (.s 4)⟩,
 ⟨some 47, none, .mv false (.s 7)⟩,
 ⟨some 48, none, .idxSl 1 (.s 46) (.s 47)⟩,
 ⟨some 49, none, .load none none false (.s 48)⟩,
 ⟨some 8, none, .mv false (.s 49)⟩]) (
 .seq (
 .seq (
 .region [4, 6, 7, 8, 51] [] [
 ⟨some 50, none, .mv false (.s 0)⟩,
 ⟨some 51, none, .bin .lss (.s 50) (.c (i64 0))⟩]) (
 .cond (.s 51) (
 .region [4, 6, 7, 8] [] [
 ⟨some 52, none, .mv false (.s 8)⟩,
 ⟨some 53, none, .bin .sub (.c (u8 255)) (.s 52)⟩,
 ⟨some 8, none, .mv false (.s 53)⟩]) (
 .ghost (.keep [4, 6, 7, 8]) .skip))) (
 f_custodyref01_Int_r5)))) (
 .region [4, 6, 7] [] [
 ⟨some 44, none, .mv false (.s 7)⟩,
 ⟨some 45, none, .bin .sub (.s 44) (.c (i64 1))⟩,
 ⟨some 7, none, .mv false (.s 45)⟩])
def f_custodyref01_Int_l1 : ACode :=
 .seq (
 .seq (
 .region [4, 6, 7, 43] [] [
 ⟨some 42, none, .mv false (.s 7)⟩,
 ⟨some 43, none, .bin .geq (.s 42) (.c (i64 0))⟩]) (
 .cond (.s 43) (
 .ghost (.keep [4, 6, 7]) .skip) (
 .ghost (.keep [6]) (.exit 2)))) (
 f_custodyref01_Int_r4)
def f_custodyref01_Int_r6 : ACode :=
 .seq (
 .region [2] [] [
 ⟨some 58, none, .mv true (.s 6)⟩,
 ⟨some 2, none, .mv true (.s 58)⟩]) (
 .ret)
def f_custodyref01_Int_r3 : ACode :=
 .seq (
 .seq (
 .region [4, 6, 7] [] [
 ⟨some 40, none, .mv false (.s 5)⟩,
 ⟨some 41, none, .bin .sub (.s 40) (.c (i64 1))⟩,
 ⟨some 7, none, .mv false (.s 41)⟩]) (
 .block 2 (
 .loop f_custodyref01_Int_l1))) (
 f_custodyref01_Int_r6)
def f_custodyref01_Int_r2 : ACode :=
 .seq (
 .region [4, 5] [] [
 ⟨some 24, none, .mv false (.s 4)⟩,
 ⟨some 25, none, .len false (.s 24)⟩,
 ⟨some 5, none, .mv false (.s 25)⟩]) (
 .seq (
 .region [4, 5, 6] [] [
 ⟨some 6, none, .mv true (.c (.sl (.own 1) none 0 []))⟩]) (
 .seq (
 .seq (
 .region [4, 5, 6, 27] [] [
 ⟨some 26, none, .mv false (.s 0)⟩,
 ⟨some 27, none, .bin .geq (.s 26) (.c (i64 0))⟩]) (
 .cond (.s 27) (
 .region [4, 5, 6] [] [
 ⟨some 28, none, .mv true (.s 6)⟩,
 ⟨some 29, none, .mv false (.s 5)⟩,
 ⟨some 30, none, .bin .add (.c (i64 128)) (.s 29)⟩,
 ⟨some 31, none, .toInt .u8 (.s 30)⟩,
 ⟨some 32, none, .buildSl 1 1 [u8 0] [(0, 1, (.s 31))]⟩,
 ⟨some 33, none, .append 1 1 false none none 28 (.s 32)⟩,
 ⟨some 6, none, .mv true (.s 33)⟩]) (
 .region [4, 5, 6] [] [
 ⟨some 34, none, .mv true (.s 6)⟩,
 ⟨some 35, none, .mv false (.s 5)⟩,
 ⟨some 36, none, .bin .sub (.c (i64 127)) (.s 35)⟩,
 ⟨some 37, none, .toInt .u8 (.s 36)⟩,
 ⟨some 38, none, .buildSl 1 1 [u8 0] [(0, 1, (.s 37))]⟩,
 ⟨some 39, none, .append 1 1 false none none 34 (.s 38)⟩,
 ⟨some 6, none, .mv true (.s 39)⟩]))) (
 f_custodyref01_Int_r3)))
def f_custodyref01_Int_r0 : ACode :=
 .seq (
 .region [3, 4] [] [
 ⟨some 4, none, .mv true (.c (.sl (.own 1) none 0 []))⟩]) (
 .seq (
 .block 0 (
 .loop f_custodyref01_Int_l0)) (
 f_custodyref01_Int_r2))
def f_custodyref01_Int : AFun :=
 { n := 1, wr := [], res := [.t 2], body :=
 .seq (
 .region [] [] [
 ⟨some 2, none, .mv true (.c (.sl (.own 1) none 0 []))⟩]) (
 .seq (
 .region [3] [] [
 ⟨some 9, none, .mv false (.s 0)⟩,
 ⟨some 3, none, .mv false (.s 9)⟩]) (
 .seq (
 .seq (
 .region [3, 11] [] [
 ⟨some 10, none, .mv false (.s 0)⟩,
 ⟨some 11, none, .bin .lss (.s 10) (.c (i64 0))⟩]) (
 .cond (.s 11) (
 .region [3] [] [
 ⟨some 12, none, .mv false (.s 0)⟩,
 ⟨some 13, none, .bin .sub (.c (i64 (-1))) (.s 12)⟩,
 ⟨some 3, none, .mv false (.s 13)⟩]) (
 .ghost (.keep [3]) .skip))) (
 f_custodyref01_Int_r0))) }

end Go.Abs
end

section
namespace Go.Abs
theorem rotr_ok (E : Env) : ∀ ds, rotrC.pre ds → ds.length = f_custodyref02_rotr.n ∧ awp E f_custodyref02_rotr.body (retQ f_custodyref02_rotr.res (rotrC.post ds)) (initSt f_custodyref02_rotr.wr ds) := by
  rintro _ ⟨x, n, h0, h1, rfl⟩
  simp (maxSteps := 1000000) (disch := first | omega | (simp; done) | (simp; omega)) [W_id, bys_app, bys_snoc, f_custodyref02_rotr]
  refine ⟨by omega, by omega, ?_⟩
  rw [rotr, show ((32 : Int) - n).toNat = 32 - n.toNat by omega]
theorem text32_ok (E : Env) : ∀ ds, text32C.pre ds → ds.length = f_custodyref02_Bytes32.n ∧ awp E f_custodyref02_Bytes32.body (retQ f_custodyref02_Bytes32.res (text32C.post ds)) (initSt f_custodyref02_Bytes32.wr ds) := by
  rintro _ ⟨b, hb, rfl⟩
  simp (maxSteps := 1000000) (disch := first | omega | (simp; done) | (simp; omega)) [W_id, bys_app, bys_snoc, f_custodyref02_Bytes32, hb]
  refine awp_name fun Q0 hQ0 => ?_
  refine awp_for (fun i : Nat => ⟨[(0, .agg (bys b))], [(1, .bp 1 0), (3, .sl (.own 1) none i (bys (b.take i))), (4, i64 i)], [(1, some (bys b))]⟩) (fun i => 32 - i) (· ≤ 32) 0 rfl (by simp) fun i hi => ?_
  refine awp_name fun Q1 hQ1 => ?_
  simp (maxSteps := 1000000) (disch := first | omega | (simp; done) | (simp; omega)) [W_id, bys_app, bys_snoc]
  rw [awp_cond]
  refine ⟨by simp, fun h => ?_, fun h => ?_⟩ <;> simp at h
  · have hi' : i < b.length := by omega
    simp (maxSteps := 1000000) (disch := first | omega | (simp; done) | (simp; omega)) [W_id, bys_app, bys_snoc, hd_bys]
    repeat' (first | omega | apply And.intro)
    rw [hQ1]
    simp
    exact ⟨i + 1, by omega, by omega, ⟨by omega, (take8 hi').symm⟩, by omega⟩
  · have e : i = 32 := by omega
    subst e
    simp [hQ1, hQ0, List.take_of_length_le, hb]
theorem rmac_ok (E : Env) (h15 : E.G 15 = rsumC) (h19 : E.G 19 = text32C) (h27 : E.G 27 = padKC) : ∀ ds, rmacC.pre ds → ds.length = f_custodyref02_Mac.n ∧ awp E f_custodyref02_Mac.body (retQ f_custodyref02_Mac.res (rmacC.post ds)) (initSt f_custodyref02_Mac.wr ds) := by
  rintro _ ⟨key, text, hk, ht, rfl⟩
  simp (maxSteps := 1000000) (disch := first | omega | (simp; done) | (simp; omega)) [W_id, bys_app, bys_snoc, f_custodyref02_Mac, h15, h19, h27, rsum_pre, text32_pre, padK_pre]
  exact ⟨by omega, rfl⟩
theorem rbytes_ok (E : Env) (h30 : E.G 30 = rintC) : ∀ ds, rbytesC.pre ds → ds.length = f_custodyref01_Bytes.n ∧ awp E f_custodyref01_Bytes.body (retQ f_custodyref01_Bytes.res (rbytesC.post ds)) (initSt f_custodyref01_Bytes.wr ds) := by
  rintro _ ⟨s, hs, rfl⟩
  have hl := encI_len (n := s.length) ⟨by omega, by omega⟩
  simp (maxSteps := 1000000) (disch := first | omega | (simp; done) | (simp; omega)) [W_id, bys_app, bys_snoc, f_custodyref01_Bytes, h30, rint_pre, encS]
  omega
end Go.Abs
end

section
namespace Go.Abs
theorem padded_ok (E : Env) : ∀ ds, paddedC.pre ds → ds.length = f_custodyref02_padded.n ∧ awp E f_custodyref02_padded.body (retQ f_custodyref02_padded.res (paddedC.post ds)) (initSt f_custodyref02_padded.wr ds) := by
  rintro _ ⟨nl, b, hb, rfl⟩
  have hn : (UInt64.ofNat b.length).toNat = b.length := by rw [UInt64.toNat_ofNat']; omega
  have ho : UInt64.ofInt (b.length : Int) = UInt64.ofNat b.length := by
    apply UInt64.toNat_inj.1
    rw [ofInt64, UInt64.toNat_ofNat']
    omega
  have hz := padZ_lt b.length
  have hzo := padZ_ok b.length
  simp (maxSteps := 1000000) (disch := first | omega | (simp; done) | (simp; omega)) [W_id, bys_app, bys_snoc, f_custodyref02_padded]
  refine ⟨by omega, by omega, ?_⟩
  refine awp_name fun Q0 hQ0 => ?_
  refine awp_for (fun k : Nat => ⟨[(0, .sl .plain nl b.length (bys b))], [(3, .sl (.own 1) (some false) (b.length + 1 + k) (bys (b ++ 128 :: zeros k)))], []⟩)
    (fun k => padZ b.length - k) (· ≤ padZ b.length) 0 rfl (by simp) fun k hk => ?_
  refine awp_name fun Q1 hQ1 => ?_
  simp (maxSteps := 1000000) (disch := first | omega | (simp; done) | (simp; omega)) [W_id, bys_app, bys_snoc]
  have e64 : ((b.length : Int) + 1 + (k : Int)).tmod 64 = ((b.length + 1 + k) % 64 : Nat) := by rw [Int.tmod_eq_emod_of_nonneg (by omega)]; omega
  rw [awp_cond]
  refine ⟨by simp, fun h => ?_, fun h => ?_⟩ <;> simp at h
  · have hk' : k < padZ b.length := by
      rcases Nat.lt_or_ge k (padZ b.length) with h3 | h3
      · exact h3
      · have : k = padZ b.length := by omega
        subst this
        omega
    simp (maxSteps := 1000000) (disch := first | omega | (simp; done) | (simp; omega)) [W_id, bys_app, bys_snoc, hQ1]
    refine ⟨by omega, k + 1, by omega, by omega, by omega, ?_⟩
    rw [← zeros_succ']
  · have e : k = padZ b.length := by
      unfold padZ at hk ⊢
      omega
    subst e
    simp (maxSteps := 1000000) (disch := first | omega | (simp; done) | (simp; omega)) [W_id, bys_app, bys_snoc, hQ1, hQ0]
    refine awp_name fun Q2 hQ2 => ?_
    refine awp_for (fun i : Nat => ⟨[(0, .sl .plain nl b.length (bys b))], [(3, .sl (.own 1) (some false) (b.length + 1 + padZ b.length + i) (bys (b ++ 128 :: zeros (padZ b.length) ++ be8 (8 * UInt64.ofNat b.length) i))), (4, u64 (8 * UInt64.ofNat b.length)), (5, i64 i)], []⟩)
      (fun i => 8 - i) (· ≤ 8) 0 (by simp [be8, ho]) (by decide) fun i hi => ?_
    have hbe := be8_len (8 * UInt64.ofNat b.length) i
    refine awp_name fun Q3 hQ3 => ?_
    simp (maxSteps := 1000000) (disch := first | omega | (simp; done) | (simp; omega)) [W_id, bys_app, bys_snoc]
    rw [awp_cond]
    refine ⟨by simp, fun h => ?_, fun h => ?_⟩ <;> simp at h
    · have e7 : ((56 : Int) - 8 * (i : Int)).toNat = 56 - 8 * i := by omega
      simp (maxSteps := 1000000) (disch := first | omega | (simp; done) | (simp; omega)) [W_id, bys_app, bys_snoc, e7]
      refine ⟨by omega, by omega, ?_⟩
      rw [hQ3]
      simp
      refine ⟨i + 1, by omega, by omega, ⟨by omega, ?_⟩, by omega⟩
      rw [be8]
    · have e : i = 8 := by omega
      subst e
      simp [hQ3, hQ2, padded, padOf, hn, be8_len]
      omega
theorem shl32_or (x y : UInt32) (n : Nat) : shl32 (x ||| y) n = shl32 x n ||| shl32 y n := by
  apply UInt32.toBitVec_inj.1
  exact BitVec.shiftLeft_or_distrib x.toBitVec y.toBitVec n
theorem shl32_shl32 (x : UInt32) (m n : Nat) : shl32 (shl32 x m) n = shl32 x (m + n) := by
  apply UInt32.toBitVec_inj.1
  exact (BitVec.shiftLeft_add x.toBitVec m n).symm
theorem ldw_4 (b : List UInt8) (t : Nat) : ldw b t 4 = shl32 (at8 b (4 * t)).toUInt32 24 ||| shl32 (at8 b (4 * t + 1)).toUInt32 16 ||| shl32 (at8 b (4 * t + 2)).toUInt32 8 ||| (at8 b (4 * t + 3)).toUInt32 := by
  have h0 : shl32 0 8 = 0 := rfl
  have h1 : ∀ x : UInt32, 0 ||| x = x := fun x => by simp
  simp only [ldw, shl32_or, shl32_shl32, h0, h1, Nat.add_zero]
theorem words_ok (E : Env) (h26 : E.G 26 = rotrC) : ∀ ds, schedC.pre ds → ds.length = f_custodyref02_words.n ∧ awp E f_custodyref02_words.body (retQ f_custodyref02_words.res (schedC.post ds)) (initSt f_custodyref02_words.wr ds) := by
  rintro _ ⟨nl, b, hb, rfl⟩
  simp (maxSteps := 1000000) (disch := first | omega | (simp; done) | (simp; omega)) [W_id, bys_app, bys_snoc, f_custodyref02_words]
  refine awp_name fun Q0 hQ0 => ?_
  refine awp_for (fun t : Nat => ⟨[(0, .sl .plain nl 64 (bys b))], [(2, .bp 2 0), (3, .bp 3 0), (4, i64 t)], [(2, some (w32s (zeros32 64))), (3, some (w32s (sched b t ++ zeros32 (64 - t))))]⟩)
    (fun t => 16 - t) (· ≤ 16) 0 rfl (by decide) fun t ht => ?_
  have hl := sched_length b t
  refine awp_name fun Q1 hQ1 => ?_
  simp (maxSteps := 1000000) (disch := first | omega | (simp; done) | (simp; omega)) [W_id, bys_app, bys_snoc]
  rw [awp_cond]
  refine ⟨by simp, fun h => ?_, fun h => ?_⟩ <;> simp at h
  · have h4 : (4 * (t : Int)).toNat = 4 * t := by omega
    have h41 : (4 * (t : Int) + 1).toNat = 4 * t + 1 := by omega
    have h42 : (4 * (t : Int) + 2).toNat = 4 * t + 2 := by omega
    have h43 : (4 * (t : Int) + 3).toNat = 4 * t + 3 := by omega
    simp (maxSteps := 1000000) (disch := first | omega | (simp; done) | (simp; omega)) [W_id, bys_app, bys_snoc, hd_bys, h4, h41, h42, h43, splice_w32s, set_mid, zeros32_64 (show t < 64 by omega)]
    repeat' (first | omega | apply And.intro)
    simp [hQ1]
    refine ⟨t + 1, by omega, by omega, by omega, ?_⟩
    rw [sched, wnext, if_pos (by omega), show 64 - (t + 1) = 63 - t by omega, ldw_4]
    simp
  · have e : t = 16 := by omega
    subst e
    simp (maxSteps := 1000000) (disch := first | omega | (simp; done) | (simp; omega)) [W_id, bys_app, bys_snoc, hQ1, hQ0]
    refine awp_name fun Q2 hQ2 => ?_
    refine awp_for (fun t : Nat => ⟨[(0, .sl .plain nl 64 (bys b))], [(2, .bp 2 0), (3, .bp 3 0), (5, i64 t)], [(2, some (w32s (zeros32 64))), (3, some (w32s (sched b t ++ zeros32 (64 - t))))]⟩)
      (fun t => 64 - t) (fun t => 16 ≤ t ∧ t ≤ 64) 16 rfl (by decide) fun t ht => ?_
    have hl := sched_length b t
    refine awp_name fun Q3 hQ3 => ?_
    simp (maxSteps := 1000000) (disch := first | omega | (simp; done) | (simp; omega)) [W_id, bys_app, bys_snoc]
    rw [awp_cond]
    refine ⟨by simp, fun h2 => ?_, fun h2 => ?_⟩ <;> simp at h2
    · simp (maxSteps := 1000000) (disch := first | omega | (simp; done) | (simp; omega)) [W_id, bys_app, bys_snoc, h26, rotr_pre, hd_w32s, splice_w32s, at32_app]
      repeat' (first | omega | apply And.intro)
      simp [hQ3]
      refine ⟨t + 1, by omega, by omega, by omega, ?_⟩
      rw [sched, wnext, if_neg (by omega), show 64 - (t + 1) = 63 - t by omega, zeros32_64 (by omega), show ((t : Int) - 16).toNat = t - 16 by omega, show ((t : Int) - 15).toNat = t - 15 by omega, show ((t : Int) - 7).toNat = t - 7 by omega, show ((t : Int) - 2).toNat = t - 2 by omega]
      simp [sg0, sg1]
    · have e : t = 64 := by omega
      subst e
      simp (disch := simp [hl]) [hQ3, hQ2, splice_full, hl, List.take_of_length_le, zeros32]
theorem padKey_ok (E : Env) (h15 : E.G 15 = rsumC) (h19 : E.G 19 = text32C) : ∀ ds, padKC.pre ds → ds.length = f_custodyref02_padKey.n ∧ awp E f_custodyref02_padKey.body (retQ f_custodyref02_padKey.res (padKC.post ds)) (initSt f_custodyref02_padKey.wr ds) := by
  rintro _ ⟨k, w, hk, rfl⟩
  simp (maxSteps := 1000000) (disch := first | omega | (simp; done) | (simp; omega)) [W_id, bys_app, bys_snoc, f_custodyref02_padKey]
  refine awp_name fun Q0 hQ0 => ?_
  have key2 : Q0 .normal ⟨[(0, st k), (1, u8 w)], [(5, st (keyOf k))], []⟩ := by
    have hp := padK_len (keyOf k) w
    simp (maxSteps := 1000000) (disch := first | omega | (simp; done) | (simp; omega)) [W_id, bys_app, bys_snoc, hQ0]
    refine awp_name fun Q1 hQ1 => ?_
    refine awp_for (fun i : Nat => ⟨[(0, st k), (1, u8 w)], [(5, st (keyOf k)), (6, .sl (.own 1) none i (bys ((padK (keyOf k) w).take i))), (7, i64 i)], []⟩)
      (fun i => 64 - i) (· ≤ 64) 0 rfl (by decide) fun i hi => ?_
    refine awp_name fun Q2 hQ2 => ?_
    simp (maxSteps := 1000000) (disch := first | omega | (simp; done) | (simp; omega)) [W_id, bys_app, bys_snoc]
    rw [awp_cond]
    refine ⟨by simp, fun h => ?_, fun h => ?_⟩ <;> simp at h
    · have hi' : i < (padK (keyOf k) w).length := by omega
      simp (maxSteps := 1000000) (disch := first | omega | (simp; done) | (simp; omega)) [W_id, bys_app, bys_snoc]
      refine awp_name fun Q3 hQ3 => ?_
      have key3 : ∀ c : UInt8, c ^^^ w = at8 (padK (keyOf k) w) i → Q3 .normal ⟨[(0, st k), (1, u8 w)], [(5, st (keyOf k)), (6, .sl (.own 1) none i (bys ((padK (keyOf k) w).take i))), (7, i64 i), (8, u8 c)], []⟩ := by
        intro c hc
        simp (maxSteps := 1000000) (disch := first | omega | (simp; done) | (simp; omega)) [W_id, bys_app, bys_snoc, hQ3, hQ2, hc]
        exact ⟨by omega, i + 1, by omega, by omega, ⟨by omega, (take8 hi').symm⟩, by omega⟩
      have hat : at8 (padK (keyOf k) w) i = at8 (padK (keyOf k) 0) i ^^^ w := padK_at (by omega)
      rw [awp_cond]
      refine ⟨by simp, fun h3 => ?_, fun h3 => ?_⟩ <;> simp at h3
      · simp (maxSteps := 1000000) (disch := first | omega | (simp; done) | (simp; omega)) [W_id, bys_app, bys_snoc]
        refine ⟨h3, key3 _ ?_⟩
        rw [hat, padK_0, at8_app (by simp; omega), at8_take (by omega)]
        simp [at8, List.getD, List.getElem?_eq_getElem h3]
      · simp
        refine key3 _ ?_
        rw [hat, padK_0, at8_app_r (by simp; omega)]
        simp [at8, zeros, List.getElem?_replicate]
        split <;> simp
    · have e : i = 64 := by omega
      subst e
      simp [hQ2, hQ1, hp, List.take_of_length_le]
  rw [awp_cond]
  refine ⟨by simp, fun h => ?_, fun h => ?_⟩ <;> simp at h
  · simp (maxSteps := 1000000) (disch := first | omega | (simp; done) | (simp; omega)) [W_id, bys_app, bys_snoc, h15, h19, rsum_pre, text32_pre]
    have e := key2
    rw [keyOf, if_pos (by omega)] at e
    exact e
  · simp
    have e := key2
    rw [keyOf, if_neg (by omega)] at e
    exact e
end Go.Abs
end

section
namespace Go.Abs
theorem xor_ones (x : UInt32) : x ^^^ 4294967295 = ~~~x := by
  apply UInt32.toBitVec_inj.1
  exact BitVec.xor_allOnes
theorem hd_w32s1 {l : List UInt32} (h : 1 < l.length) : hdA (w32s l).tail = u32 (at32 l 1) := by
  rw [← List.drop_one, w32s_drop, hd_w32s h]
def addH (s v : List UInt32) : Nat → List UInt32
  | 0 => s
  | t + 1 => (addH s v t).set t (at32 (addH s v t) t + at32 v t)
theorem addH_len (s v : List UInt32) : ∀ t, (addH s v t).length = s.length
  | 0 => rfl
  | t + 1 => by simp [addH, addH_len s v t]
theorem addH_8 (s v : H8) : addH s.l v.l 8 = (s.add v).l := rfl
set_option maxHeartbeats 4000000 in
theorem rsum_ok (E : Env) (hT1 : E.T 1 = w32s kc) (h24 : E.G 24 = paddedC) (h25 : E.G 25 = schedC) (h26 : E.G 26 = rotrC) : ∀ ds, rsumC.pre ds → ds.length = f_custodyref02_Sum.n ∧ awp E f_custodyref02_Sum.body (retQ f_custodyref02_Sum.res (rsumC.post ds)) (initSt f_custodyref02_Sum.wr ds) := by
  rintro _ ⟨nl, b, hb, rfl⟩
  obtain ⟨hp1, hp2, hp3⟩ := padded_len (b := b) (by omega)
  generalize hm : padded b = m at *
  have hkc : kc.length = 64 := rfl
  simp (maxSteps := 1000000) (disch := first | omega | (simp; done) | (simp; omega)) [W_id, bys_app, bys_snoc, f_custodyref02_Sum, h24, padded_pre, hm, splice_full]
  refine awp_name fun Q0 hQ0 => ?_
  refine awp_for (fun k : Nat => ⟨[(0, .sl .plain nl b.length (bys b))], [(2, .bp 2 0), (3, .bp 3 0), (4, .sl (.own 1) (some false) m.length (bys m)), (5, i64 (64 * k : Nat))],
      [(2, some (bys (zeros 32))), (3, some (w32s (blk m iv k).l))]⟩)
    (fun k => m.length - 64 * k) (fun k => 64 * k ≤ m.length) 0 rfl (by simp) fun k hk => ?_
  generalize hs : blk m iv k = s at *
  refine awp_name fun Q1 hQ1 => ?_
  simp (maxSteps := 1000000) (disch := first | omega | (simp; done) | (simp; omega)) [W_id, bys_app, bys_snoc, f_custodyref02_Sum_l0]
  rw [awp_cond]
  refine ⟨by simp, fun h => ?_, fun h => ?_⟩ <;> simp at h
  · have hb64 : ((m.drop (64 * k)).take 64).length = 64 := by simp; omega
    generalize hB : (m.drop (64 * k)).take 64 = B at *
    have hl := sched_length B 64
    have e1 : (64 * (k : Int) + 64).toNat - 64 * k = 64 := by omega
    have e2 : (64 * (k : Int)).toNat = 64 * k := by omega
    simp (maxSteps := 1000000) (disch := first | omega | (simp; done) | (simp; omega)) [W_id, bys_app, bys_snoc, f_custodyref02_Sum_r0, h25, sched_pre, e1, e2, hB, hl, splice_full]
    refine ⟨by omega, ?_⟩
    refine awp_name fun Q2 hQ2 => ?_
    have hs8 : s.l.take 8 = s.l := rfl
    refine awp_for (fun t : Nat => ⟨[(0, .sl .plain nl b.length (bys b))], [(2, .bp 2 0), (3, .bp 3 0), (4, .sl (.own 1) (some false) m.length (bys m)), (5, i64 (64 * k : Nat)), (6, .bp 6 0), (7, .bp 7 0), (8, i64 t)],
        [(2, some (bys (zeros 32))), (3, some (w32s s.l)), (6, some (w32s (sched B 64))), (7, some (w32s (rnds (sched B 64) s t).l))]⟩)
      (fun t => 64 - t) (· ≤ 64) 0 (by simp [hs8, rnds]) (by decide) fun t ht => ?_
    refine awp_name fun Q3 hQ3 => ?_
    simp (maxSteps := 1000000) (disch := first | omega | (simp; done) | (simp; omega)) [W_id, bys_app, bys_snoc, f_custodyref02_Sum_l1]
    rw [awp_cond]
    refine ⟨by simp, fun h2 => ?_, fun h2 => ?_⟩ <;> simp at h2
    · generalize hr : rnds (sched B 64) s t = r at *
      have hrl : r.l.length = 8 := rfl
      simp (maxSteps := 2000000) (disch := first | omega | (simp; done) | (simp; omega)) [f_custodyref02_Sum_r1, W_id, hT1, hd_w32s, hd_w32s0, hd_w32s1, getD_w32s, h26, rotr_pre, hl, hkc, hrl, splice_full]
      have hn : [u32 (at32 r.l 7 + (rotr (at32 r.l 4) 6 ^^^ rotr (at32 r.l 4) 11 ^^^ rotr (at32 r.l 4) 25) + (at32 r.l 4 &&& at32 r.l 5 ^^^ (at32 r.l 4 ^^^ 4294967295) &&& at32 r.l 6) + at32 kc t + at32 (sched B 64) t + ((rotr (at32 r.l 0) 2 ^^^ rotr (at32 r.l 0) 13 ^^^ rotr (at32 r.l 0) 22) + (at32 r.l 0 &&& at32 r.l 1 ^^^ at32 r.l 0 &&& at32 r.l 2 ^^^ at32 r.l 1 &&& at32 r.l 2))),
          u32 (at32 r.l 0), u32 (at32 r.l 1), u32 (at32 r.l 2), u32 (at32 r.l 3 + (at32 r.l 7 + (rotr (at32 r.l 4) 6 ^^^ rotr (at32 r.l 4) 11 ^^^ rotr (at32 r.l 4) 25) + (at32 r.l 4 &&& at32 r.l 5 ^^^ (at32 r.l 4 ^^^ 4294967295) &&& at32 r.l 6) + at32 kc t + at32 (sched B 64) t)), u32 (at32 r.l 4), u32 (at32 r.l 5), u32 (at32 r.l 6)]
          = w32s (rnds (sched B 64) s (t + 1)).l := by
        rw [xor_ones, rnds, hr]
        rfl
      rw [hn, hQ3]
      repeat' (first | omega | apply And.intro)
      simp
      exact ⟨t + 1, by omega, by omega, by omega, rfl⟩
    · have e : t = 64 := by omega
      subst e
      generalize hr : rnds (sched B 64) s 64 = r at *
      simp (maxSteps := 1000000) (disch := first | omega | (simp; done) | (simp; omega)) [W_id, bys_app, bys_snoc, hQ3, hQ2, f_custodyref02_Sum_r2]
      refine awp_name fun Q4 hQ4 => ?_
      clear hQ3 hQ2
      refine awp_for (fun t : Nat => ⟨[(0, .sl .plain nl b.length (bys b))], [(2, .bp 2 0), (3, .bp 3 0), (4, .sl (.own 1) (some false) m.length (bys m)), (5, i64 (64 * k : Nat)), (7, .bp 7 0), (11, i64 t)],
          [(2, some (bys (zeros 32))), (3, some (w32s (addH s.l r.l t))), (6, some (w32s (sched B 64))), (7, some (w32s r.l))]⟩)
        (fun t => 8 - t) (· ≤ 8) 0 (by simp [addH]) (by decide) fun t ht => ?_
      have hal := addH_len s.l r.l t
      have hsl : s.l.length = 8 := rfl
      have hrl : r.l.length = 8 := rfl
      refine awp_name fun Q5 hQ5 => ?_
      simp (maxSteps := 1000000) (disch := first | omega | (simp; done) | (simp; omega)) [W_id, bys_app, bys_snoc, f_custodyref02_Sum_l2]
      rw [awp_cond]
      refine ⟨by simp, fun h3 => ?_, fun h3 => ?_⟩ <;> simp at h3
      · simp (maxSteps := 1000000) (disch := first | omega | (simp; done) | (simp; omega)) [W_id, bys_app, bys_snoc, f_custodyref02_Sum_r3, hd_w32s, splice_w32s]
        repeat' (first | omega | apply And.intro)
        simp [hQ5]
        exact ⟨t + 1, by omega, by omega, by omega, rfl⟩
      · have e : t = 8 := by omega
        subst e
        simp (maxSteps := 1000000) (disch := first | omega | (simp; done) | (simp; omega)) [W_id, bys_app, bys_snoc, hQ5, hQ4, hQ1]
        refine ⟨k + 1, by omega, by omega, by omega, ?_⟩
        rw [addH_8, blk, hs, hB, compr, hr]
  · have e : 64 * k = m.length := by omega
    simp (maxSteps := 1000000) (disch := first | omega | (simp; done) | (simp; omega)) [W_id, bys_app, bys_snoc, hQ1, hQ0, f_custodyref02_Sum_r4]
    refine awp_name fun Q2 hQ2 => ?_
    clear hQ1 hQ0
    refine awp_for (fun i : Nat => ⟨[(0, .sl .plain nl b.length (bys b))], [(2, .bp 2 0), (3, .bp 3 0), (12, .bp 12 0), (13, i64 i)],
        [(2, some (bys (zeros 32))), (3, some (w32s s.l)), (6, none), (7, none), (12, some (bys (outB s i ++ zeros (32 - i))))]⟩)
      (fun i => 32 - i) (· ≤ 32) 0 rfl (by decide) fun i hi => ?_
    have ho := outB_len s i
    refine awp_name fun Q3 hQ3 => ?_
    simp (maxSteps := 1000000) (disch := first | omega | (simp; done) | (simp; omega)) [W_id, bys_app, bys_snoc, f_custodyref02_Sum_l3]
    rw [awp_cond]
    refine ⟨by simp, fun h2 => ?_, fun h2 => ?_⟩ <;> simp at h2
    · have hi4 : i / 4 < s.l.length := by show i / 4 < 8; omega
      have e4 : (i : Int).tdiv 4 = (i / 4 : Nat) := by rw [Int.tdiv_eq_ediv_of_nonneg (by omega)]; rfl
      have e5 : (i : Int).tmod 4 = (i % 4 : Nat) := by rw [Int.tmod_eq_emod_of_nonneg (by omega)]; rfl
      have e4' : ((i : Int) / 4).toNat = i / 4 := by omega
      have e6 : ((24 : Int) - 8 * ((i : Int) % 4)).toNat = 24 - 8 * (i % 4) := by omega
      simp (maxSteps := 1000000) (disch := first | omega | (simp; done) | (simp; omega)) [W_id, bys_app, bys_snoc, f_custodyref02_Sum_r5, e4, e5, e6, e4', hd_w32s, splice_bys, set_mid, zeros_64 (show i < 32 by omega)]
      repeat' (first | omega | apply And.intro)
      simp [hQ3]
      refine ⟨i + 1, by omega, by omega, by omega, ?_⟩
      rw [outB, show 32 - (i + 1) = 31 - i by omega]
      simp
    · have e : i = 32 := by omega
      subst e
      have hk2 : m.length / 64 = k := by omega
      have hf : sha b = outB s 32 := by
        rw [sha_blk hb, hm, hk2, hs]
      simp [hQ3, hQ2, f_custodyref02_Sum_r6, splice_bys0, ho, hf, zeros, List.take_of_length_le]
end Go.Abs
end

section
namespace Go.Abs
theorem rev_take {l : List UInt8} {j : Nat} (h : j < l.length) : l.reverse.take (j + 1) = l.reverse.take j ++ [at8 l (l.length - 1 - j)] := by
  rw [List.take_succ_eq_append_getElem (by simp; omega), at8, List.getD, List.getElem?_eq_getElem (by omega)]
  simp [List.getElem_reverse]
set_option maxHeartbeats 4000000 in
theorem rint_ok (E : Env) : ∀ ds, rintC.pre ds → ds.length = f_custodyref01_Int.n ∧ awp E f_custodyref01_Int.body (retQ f_custodyref01_Int.res (rintC.post ds)) (initSt f_custodyref01_Int.wr ds) := by
  rintro _ ⟨n, ⟨hn0, hn1⟩, rfl⟩
  simp (maxSteps := 1000000) (disch := first | omega | (simp; done) | (simp; omega)) [W_id, bys_app, bys_snoc, f_custodyref01_Int]
  refine awp_name fun Q0 hQ0 => ?_
  have key : Q0 .normal ⟨[(0, i64 n)], [(3, i64 (mag n : Nat))], []⟩ := by
    have hmag : (mag n : Int) = if n < 0 then -1 - n else n := by unfold mag; split <;> omega
    have hm63 : mag n < 9223372036854775808 := by split at hmag <;> omega
    simp (maxSteps := 1000000) (disch := first | omega | (simp; done) | (simp; omega)) [W_id, bys_app, bys_snoc, hQ0, f_custodyref01_Int_r0]
    refine awp_name fun Q1 hQ1 => ?_
    refine awp_for (fun p : Nat × List UInt8 => ⟨[(0, i64 n)], [(3, i64 p.1), (4, .sl (.own 1) none p.2.length (bys p.2))], []⟩) (fun p => p.1) (fun p => p.2 ++ digs p.1 = digs (mag n) ∧ p.1 < 9223372036854775808 ∧ p.2.length ≤ 8) (mag n, []) rfl (by simp; omega) fun p hp => ?_
    obtain ⟨m, l⟩ := p
    obtain ⟨h1, h2, h3⟩ := hp
    simp only at h1 h2 h3
    refine awp_name fun Q2 hQ2 => ?_
    simp (maxSteps := 1000000) (disch := first | omega | (simp; done) | (simp; omega)) [W_id, bys_app, bys_snoc, f_custodyref01_Int_l0]
    rw [awp_cond]
    refine ⟨by simp, fun h => ?_, fun h => ?_⟩ <;> simp at h
    · have hl7 : l.length ≤ 7 := by
        have := (digs_len 8 (mag n)).2 (by omega)
        rw [← h1, digs_pos (by omega)] at this
        simp at this
        omega
      have e1 : (m : Int).tmod 256 = ((m % 256 : Nat) : Int) := by rw [Int.tmod_eq_emod_of_nonneg (by omega)]; rfl
      have e2 : (m : Int).tdiv 256 = ((m / 256 : Nat) : Int) := by rw [Int.tdiv_eq_ediv_of_nonneg (by omega)]; rfl
      have e3 : UInt8.ofInt ((m : Int) % 256) = UInt8.ofNat m := by
        apply UInt8.toNat_inj.1
        rw [ofInt8, UInt8.toNat_ofNat']
        omega
      simp (maxSteps := 1000000) (disch := first | omega | (simp; done) | (simp; omega)) [W_id, bys_app, bys_snoc, f_custodyref01_Int_r1, e1, e2, e3]
      refine ⟨by omega, ?_⟩
      simp [hQ2]
      refine ⟨m / 256, by omega, l ++ [UInt8.ofNat m], ⟨?_, by omega, by simp; omega⟩, by omega, by simp, by simp⟩
      rw [List.append_assoc, List.singleton_append, ← digs_pos (by omega), h1]
    · have e : m = 0 := by omega
      subst e
      rw [digs_zero, List.append_nil] at h1
      subst h1
      generalize hD : digs (mag n) = D at *
      simp (maxSteps := 1000000) (disch := first | omega | (simp; done) | (simp; omega)) [W_id, bys_app, bys_snoc, hQ2, hQ1, f_custodyref01_Int_r2]
      refine awp_name fun Q3 hQ3 => ?_
      have key2 : ∀ c, c = flp n (UInt8.ofNat (128 + D.length)) → Q3 .normal ⟨[(0, i64 n)], [(4, .sl (.own 1) none D.length (bys D)), (5, i64 D.length), (6, .sl (.own 1) none 1 (bys [c]))], []⟩ := by
        intro c hc
        have hfin : encI n = c :: D.reverse.map (flp n) := by rw [encI, hD, hc]
        clear hc
        simp (maxSteps := 1000000) (disch := first | omega | (simp; done) | (simp; omega)) [W_id, bys_app, bys_snoc, hQ3, f_custodyref01_Int_r3]
        refine awp_name fun Q4 hQ4 => ?_
        refine awp_for (fun j : Nat => ⟨[(0, i64 n)], [(4, .sl (.own 1) none D.length (bys D)), (6, .sl (.own 1) none (1 + j) (bys (c :: (D.map (flp n)).reverse.take j))), (7, i64 ((D.length : Int) - 1 - j))], []⟩)
          (fun j => D.length - j) (· ≤ D.length) 0 (by simp) (by simp) fun j hj => ?_
        refine awp_name fun Q5 hQ5 => ?_
        simp (maxSteps := 1000000) (disch := first | omega | (simp; done) | (simp; omega)) [W_id, bys_app, bys_snoc, f_custodyref01_Int_l1]
        rw [awp_cond]
        refine ⟨by simp, fun h5 => ?_, fun h5 => ?_⟩ <;> simp at h5
        · have hj' : j < D.length := by omega
          have e1 : ((D.length : Int) - 1 - (j : Int)).toNat = D.length - 1 - j := by omega
          simp (maxSteps := 1000000) (disch := first | omega | (simp; done) | (simp; omega)) [W_id, bys_app, bys_snoc, f_custodyref01_Int_r4, e1, hd_bys]
          refine ⟨by omega, by omega, ?_⟩
          refine awp_name fun Q6 hQ6 => ?_
          have key3 : ∀ d, d = flp n (at8 D (D.length - 1 - j)) → Q6 .normal ⟨[(0, i64 n)], [(4, .sl (.own 1) none D.length (bys D)), (6, .sl (.own 1) none (1 + j) (bys (c :: (D.map (flp n)).reverse.take j))), (7, i64 ((D.length : Int) - 1 - j)), (8, u8 d)], []⟩ := by
            intro d hd
            subst hd
            simp (maxSteps := 1000000) (disch := first | omega | (simp; done) | (simp; omega)) [W_id, bys_app, bys_snoc, hQ6, hQ5, f_custodyref01_Int_r5]
            refine ⟨by omega, j + 1, by omega, by omega, ⟨by omega, ?_⟩, by omega⟩
            rw [rev_take (by simpa using hj')]
            simp [at8, List.getD, List.getElem?_eq_getElem (show D.length - 1 - j < D.length by omega)]
          rw [awp_cond]
          refine ⟨by simp, fun h7 => ?_, fun h7 => ?_⟩ <;> simp at h7
          · simp (maxSteps := 1000000) (disch := first | omega | (simp; done) | (simp; omega)) [W_id, bys_app, bys_snoc]
            exact key3 _ (by rw [flp, if_pos h7])
          · simp
            exact key3 _ (by rw [flp, if_neg (by omega)])
        · have e : j = D.length := by omega
          subst e
          simp [hQ5, hQ4, f_custodyref01_Int_r6, hfin, List.take_of_length_le]
          omega
      have hc8 : (UInt8.ofNat (128 + D.length)).toNat = 128 + D.length := by rw [UInt8.toNat_ofNat']; omega
      rw [awp_cond]
      refine ⟨by simp, fun h6 => ?_, fun h6 => ?_⟩ <;> simp at h6
      · simp (maxSteps := 1000000) (disch := first | omega | (simp; done) | (simp; omega)) [W_id, bys_app, bys_snoc]
        refine key2 _ ?_
        rw [flp, if_neg (by omega)]
        apply UInt8.toNat_inj.1
        rw [hc8, UInt8.toNat_add, ofInt8, ofInt8]
        omega
      · simp (maxSteps := 1000000) (disch := first | omega | (simp; done) | (simp; omega)) [W_id, bys_app, bys_snoc]
        refine key2 _ ?_
        rw [flp, if_pos (by omega)]
        apply UInt8.toNat_inj.1
        rw [UInt8.toNat_sub, hc8, ofInt8]
        have : (255 : UInt8).toNat = 255 := rfl
        omega
  have hmag : (mag n : Int) = if n < 0 then -1 - n else n := by unfold mag; split <;> omega
  rw [awp_cond]
  refine ⟨by simp, fun h => ?_, fun h => ?_⟩ <;> simp at h
  · simp (maxSteps := 1000000) (disch := first | omega | (simp; done) | (simp; omega)) [W_id, bys_app, bys_snoc]
    rw [if_pos h] at hmag
    rw [hmag] at key
    exact key
  · simp
    rw [if_neg (by omega)] at hmag
    rw [hmag] at key
    exact key
end Go.Abs
end
