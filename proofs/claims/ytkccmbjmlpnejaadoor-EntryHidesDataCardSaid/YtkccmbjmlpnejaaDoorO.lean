/- Lemmas: an abstract interpreter, and what the functions compute. -/
import Derived.Test.YtkccmbjmlpnejaaDoorC
import Derived.Test.YtkccmbjmlpnejaaDoorT
import Derived.Test.YtkccmbjmlpnejaaDoorN
import Derived.Test.YtkccmbjmlpnejaaDoorH
import Derived.Test.YtkccmbjmlpnejaaDoorI
import Derived.Test.YtkccmbjmlpnejaaDoorL
set_option linter.unusedSimpArgs false
set_option linter.unusedVariables false
set_option linter.unusedSectionVars false
section
namespace Go.Abs
set_option maxRecDepth 100000
def z34 : z5a :=
 .cond (.s 20) (
 .region [2, 4] [.norm [2, 13]] [
 ⟨some 21, none, .mv false (.s 5)⟩,
 ⟨some 22, none, .idxSl 1 (.s 21) (.c (i64 0))⟩,
 ⟨some 23, none, .load none none false (.s 22)⟩,
 ⟨some 24, none, .mv false (.s 5)⟩,
 ⟨some 25, none, .idxSl 1 (.s 24) (.c (i64 1))⟩,
 ⟨some 26, none, .load none none false (.s 25)⟩,
 ⟨some 27, none, .mv false (.s 5)⟩,
 ⟨some 28, none, .idxSl 1 (.s 27) (.c (i64 2))⟩,
 ⟨some 29, none, .load none none false (.s 28)⟩,
 ⟨some 30, none, .mv false (.s 5)⟩,
 ⟨some 31, none, .idxSl 1 (.s 30) (.c (i64 3))⟩,
 ⟨some 32, none, .load none none false (.s 31)⟩,
 ⟨some 33, none, .build (List.replicate 10 (i64 0) ++ [st []] ++ [.sl .plain none 0 []] ++ bys (z2c 16) ++ [.sl .plain (some true) 0 []] ++ [.sl .plain none 0 []]) [(0, 1, (.s 23)), (1, 1, (.s 26)), (2, 1, (.s 29)), (3, 1, (.s 32))]⟩,
 ⟨none, none, .store (some 30) 2 false (.s 2) (.s 33)⟩]) (
 .ghost (.keep [2, 4]) .skip)
def z7L : z5a :=
 .cond (.s 53) (
 .ghost (.keep [2, 4, 7, 8]) .skip) (
 .ghost (.keep [2, 4]) (.exit 0))
def z71 : z5a :=
 .cond (.s 70) (
 .region [2, 4, 7, 8] [.norm [2, 13]] [
 ⟨some 71, none, .fieldAddr 28 (.s 2)⟩,
 ⟨some 72, none, .load none (some 2) true (.s 71)⟩,
 ⟨some 73, none, .mv false (.s 9)⟩,
 ⟨some 74, none, .idxSl 1 (.s 73) (.c (i64 0))⟩,
 ⟨some 75, none, .load none none false (.s 74)⟩,
 ⟨some 76, none, .mv false (.s 9)⟩,
 ⟨some 77, none, .idxSl 1 (.s 76) (.c (i64 1))⟩,
 ⟨some 78, none, .load none none false (.s 77)⟩,
 ⟨some 79, none, .mv false (.s 9)⟩,
 ⟨some 80, none, .idxSl 1 (.s 79) (.c (i64 2))⟩,
 ⟨some 81, none, .load none none false (.s 80)⟩,
 ⟨some 82, none, .mv false (.s 9)⟩,
 ⟨some 83, none, .idxSl 1 (.s 82) (.c (i64 3))⟩,
 ⟨some 84, none, .load none none false (.s 83)⟩,
 ⟨some 85, none, .mv false (.s 9)⟩,
 ⟨some 86, none, .idxSl 1 (.s 85) (.c (i64 4))⟩,
 ⟨some 87, none, .load none none false (.s 86)⟩,
 ⟨some 88, none, .mv false (.s 9)⟩,
 ⟨some 89, none, .idxSl 1 (.s 88) (.c (i64 5))⟩,
 ⟨some 90, none, .load none none false (.s 89)⟩,
 ⟨some 91, none, .mv false (.s 9)⟩,
 ⟨some 92, none, .idxSl 1 (.s 91) (.c (i64 6))⟩,
 ⟨some 93, none, .load none none false (.s 92)⟩,
 ⟨some 94, none, .mv false (.s 9)⟩,
 ⟨some 95, none, .idxSl 1 (.s 94) (.c (i64 7))⟩,
 ⟨some 96, none, .load none none false (.s 95)⟩,
 ⟨some 97, none, .bin .eql (.s 96) (.c (i64 1))⟩,
 ⟨some 98, none, .mv false (.s 4)⟩,
 ⟨some 99, none, .callm 325 none [(.s 98), (.c (.fn 320 [] []))] [(0, 13)] []⟩,
 ⟨some 100, none, .build (List.replicate 7 (i64 0) ++ [bo false] ++ bys (z2c 16)) [(0, 1, (.s 75)), (1, 1, (.s 78)), (2, 1, (.s 81)), (3, 1, (.s 84)), (4, 1, (.s 87)), (5, 1, (.s 90)), (6, 1, (.s 93)), (7, 1, (.s 97)), (8, 16, (.s 99))]⟩,
 ⟨some 101, none, .buildSl 24 1 [i64 0, i64 0, i64 0, i64 0, i64 0, i64 0, i64 0, bo false, u8 0, u8 0, u8 0, u8 0, u8 0, u8 0, u8 0, u8 0, u8 0, u8 0, u8 0, u8 0, u8 0, u8 0, u8 0, u8 0] [(0, 24, (.s 100))]⟩,
 ⟨some 102, none, .append 24 80 false none none 72 (.s 101)⟩,
 ⟨some 103, none, .fieldAddr 28 (.s 2)⟩,
 ⟨none, none, .store none 2 false (.s 103) (.s 102)⟩]) (
 .ghost (.keep [2, 4, 7, 8]) .skip)
def z6Z : z5a :=
 .seq (
 .region [2, 4, 7, 8, 9, 70] [.norm [2, 13], .reB 2 28 (some 24), .norm [2, 13]] [
 ⟨some 58, none, .mv false (.s 4)⟩,
 ⟨some 59, none, .mv false (.s 9)⟩,
 ⟨some 60, none, .len false (.s 59)⟩,
 ⟨some 61, none, .bin .eql (.s 60) (.c (i64 8))⟩,
 ⟨some 62, none, .callm 316 none [(.s 58), (.s 61), (.c (i64 6))] [(0, 13)] []⟩,
 ⟨some 63, none, .mv false (.s 62)⟩,
 ⟨some 64, (some (63, true)), .mv false (.s 4)⟩,
 ⟨some 65, (some (63, true)), .mv false (.s 9)⟩,
 ⟨some 66, (some (63, true)), .idxSl 1 (.s 65) (.c (i64 7))⟩,
 ⟨some 67, (some (63, true)), .load none none false (.s 66)⟩,
 ⟨some 68, (some (63, true)), .call 295 [(.s 67), (.c (i64 0)), (.c (i64 1))] []⟩,
 ⟨some 69, (some (63, true)), .callm 316 none [(.s 64), (.s 68), (.c (i64 6))] [(0, 13)] []⟩,
 ⟨some 70, none, .pick (.s 63) (.s 69) (.c (bo false))⟩]) (
 z71)
def z10 : z5a :=
 .seq (
 .block 1 (
 .seq (
 .region [2, 4, 7, 8, 9] [.norm [2, 13]] [
 ⟨some 56, none, .mv false (.s 4)⟩,
 ⟨some 57, none, .callm 323 none [(.s 56), (.c (.fn 52 [] []))] [(0, 13)] []⟩,
 ⟨some 9, none, .mv true (.s 57)⟩]) (
 z6Z))) (
 .region [2, 4, 7, 8] [] [
 ⟨some 54, none, .mv false (.s 8)⟩,
 ⟨some 55, none, .bin .add (.s 54) (.c (i64 1))⟩,
 ⟨some 8, none, .mv false (.s 55)⟩])
def z2Q : z5a :=
 .seq (
 .seq (
 .region [2, 4, 7, 8, 53] [.norm [2, 13]] [
 ⟨some 45, none, .mv false (.s 4)⟩,
 ⟨some 46, none, .mv false (.s 7)⟩,
 ⟨some 47, none, .call 295 [(.s 46), (.c (i64 0)), (.c (i64 4096))] []⟩,
 ⟨some 48, none, .callm 316 none [(.s 45), (.s 47), (.c (i64 6))] [(0, 13)] []⟩,
 ⟨some 49, none, .mv false (.s 48)⟩,
 ⟨some 50, (some (49, true)), .mv false (.s 8)⟩,
 ⟨some 51, (some (49, true)), .mv false (.s 7)⟩,
 ⟨some 52, (some (49, true)), .bin .lss (.s 50) (.s 51)⟩,
 ⟨some 53, none, .pick (.s 49) (.s 52) (.c (bo false))⟩]) (
 z7L)) (
 z10)
def z63 : z5a :=
 .block 0 (
 .loop z2Q)
def z5Z : z5a :=
 .cond (.s 119) (
 .seq (
 .region [2, 3] [.norm [2, 13]] [
 ⟨some 120, none, .build (List.replicate 10 (i64 0) ++ [st []] ++ [.sl .plain none 0 []] ++ bys (z2c 16) ++ [.sl .plain none 0 []] ++ [.sl .plain none 0 []]) []⟩,
 ⟨some 121, none, .mv false (.s 4)⟩,
 ⟨some 122, none, .nilchk (.s 121)⟩,
 ⟨some 123, none, .fieldAddr 1 (.s 122)⟩,
 ⟨some 124, none, .load none (some 13) false (.s 123)⟩,
 ⟨none, none, .store (some 30) 2 false (.s 2) (.s 120)⟩,
 ⟨some 3, none, .mv false (.s 124)⟩]) (
 .ret)) (
 .ghost (.keep [2]) .skip)
def z50 : z5a :=
 .seq (
 .region [2, 3] [.norm [2, 13]] [
 ⟨some 125, none, .load (some 30) (some 2) false (.s 2)⟩,
 ⟨none, none, .store (some 30) 2 false (.s 2) (.s 125)⟩,
 ⟨some 3, none, .mv false (.c (i64 0))⟩]) (
 .ret)
def z21 : z5a :=
 .seq (
 .seq (
 .region [2, 4, 119] [.norm [2, 13]] [
 ⟨some 107, none, .mv false (.s 4)⟩,
 ⟨some 108, none, .mv false (.s 4)⟩,
 ⟨some 109, none, .nilchk (.s 108)⟩,
 ⟨some 110, none, .fieldAddr 0 (.s 109)⟩,
 ⟨some 111, none, .load none (some 13) false (.s 110)⟩,
 ⟨some 112, none, .len false (.s 111)⟩,
 ⟨some 113, none, .bin .eql (.s 112) (.c (i64 0))⟩,
 ⟨some 114, none, .mv false (.s 113)⟩,
 ⟨some 115, (some (114, true)), .load (some 30) (some 2) false (.s 2)⟩,
 ⟨some 116, (some (114, true)), .call 300 [(.s 115)] []⟩,
 ⟨some 117, none, .pick (.s 114) (.s 116) (.c (bo false))⟩,
 ⟨some 118, none, .callm 316 none [(.s 107), (.s 117), (.c (i64 6))] [(0, 13)] []⟩,
 ⟨some 119, none, .un .not (.s 118)⟩]) (
 z5Z)) (
 z50)
def z00 : z5a :=
 .seq (
 .region [2, 4] [.norm [2, 13]] [
 ⟨some 104, none, .mv false (.s 4)⟩,
 ⟨some 105, none, .callm 323 none [(.s 104), (.c (.fn 52 [] []))] [(0, 13)] []⟩,
 ⟨some 106, none, .fieldAddr 29 (.s 2)⟩,
 ⟨none, none, .store none 2 true (.s 106) (.s 105)⟩]) (
 z21)
def z64 : z5a :=
 .seq (
 .seq (
 .region [2, 4, 7, 8] [] [
 ⟨some 8, none, .mv false (.c (i64 0))⟩]) (
 z63)) (
 z00)
def z26 : z5a :=
 .seq (
 .region [2, 4, 7] [.norm [2, 13]] [
 ⟨some 43, none, .mv false (.s 4)⟩,
 ⟨some 44, none, .callm 326 none [(.s 43), (.c (.fn 45 [] []))] [(0, 13)] []⟩,
 ⟨some 7, none, .mv false (.s 44)⟩]) (
 z64)
def z04 : z5a :=
 .seq (
 .region [2, 4] [.norm [2, 13]] [
 ⟨some 40, none, .mv false (.s 4)⟩,
 ⟨some 41, none, .callm 325 none [(.s 40), (.c (.fn 320 [] []))] [(0, 13)] []⟩,
 ⟨some 42, none, .fieldAddr 12 (.s 2)⟩,
 ⟨none, none, .store (some 16) 2 false (.s 42) (.s 41)⟩]) (
 z26)
def z55 : z5a :=
 .seq (
 .region [2, 4] [.norm [2, 13]] [
 ⟨some 36, none, .mv false (.s 4)⟩,
 ⟨some 37, none, .mv false (.s 6)⟩,
 ⟨some 38, none, .callm 318 none [(.s 36), (.s 37)] [(0, 13)] []⟩,
 ⟨some 39, none, .fieldAddr 4 (.s 2)⟩,
 ⟨none, none, .store (some 8) 2 false (.s 39) (.s 38)⟩]) (
 z04)
def z27 : z5a :=
 .seq (
 .region [2, 4, 6] [.norm [2, 13]] [
 ⟨some 34, none, .mv false (.s 4)⟩,
 ⟨some 35, none, .callm 324 none [(.s 34), (.c (.fn 48 [] []))] [(0, 13)] []⟩,
 ⟨some 6, none, .mv false (.s 35)⟩]) (
 z55)
def z84 : z5a :=
 .seq (
 .seq (
 .region [2, 4, 5, 20] [.norm [2, 13]] [
 ⟨some 16, none, .mv false (.s 4)⟩,
 ⟨some 17, none, .mv false (.s 5)⟩,
 ⟨some 18, none, .len false (.s 17)⟩,
 ⟨some 19, none, .bin .eql (.s 18) (.c (i64 4))⟩,
 ⟨some 20, none, .callm 316 none [(.s 16), (.s 19), (.c (i64 6))] [(0, 13)] []⟩]) (
 z34)) (
 z27)
def z43 : z5a :=
 .seq (
 .region [2, 4, 5] [.norm [2, 13]] [
 ⟨some 14, none, .mv false (.s 4)⟩,
 ⟨some 15, none, .callm 323 none [(.s 14), (.c (.fn 52 [] []))] [(0, 13)] []⟩,
 ⟨some 5, none, .mv true (.s 15)⟩]) (
 z84)
def z37 : z5a :=
 .seq (
 .region [2, 4] [.norm [2, 13]] [
 ⟨some 10, none, .mv false (.s 0)⟩,
 ⟨some 11, none, .toBytes (.s 10)⟩,
 ⟨some 12, none, .build [.sl .plain none 0 [], i64 0] [(0, 1, (.s 11))]⟩,
 ⟨some 13, none, .box 13 (some 2) false (.s 12)⟩,
 ⟨some 4, none, .mv false (.s 13)⟩]) (
 z43)
def z7n : z9q :=
 { n := 1, wr := [], res := [.cell 2 (some 30) 2, .t 3], body :=
 .seq (
 .region [2] [.norm [2]] [
 ⟨some 2, none, .alloc 2 (List.replicate 10 (i64 0) ++ [st []] ++ [.sl .plain none 0 []] ++ bys (z2c 16) ++ [.sl (.own 24) none 0 []] ++ [.sl (.own 1) none 0 []])⟩,
 ⟨some 3, none, .mv false (.c (i64 0))⟩]) (
 z37) }

def z8w : z5a :=
 .cond (.s 12) (
 .seq (
 .region [0, 4] [] [
 ⟨some 13, none, .mv true (.s 4)⟩,
 ⟨some 4, none, .mv true (.s 13)⟩]) (
 .ret)) (
 .ghost (.keep [0, 1, 4]) .skip)
def z6V : z5a :=
 .seq (
 .region [0, 4] [] [
 ⟨some 30, none, .mv true (.s 4)⟩,
 ⟨some 4, none, .mv true (.s 30)⟩]) (
 .ret)
def z4w : z5a :=
 .cond (.s 25) (
 .seq (
 .region [0, 4] [.norm [0]] [
 ⟨some 26, none, .mv false (.s 0)⟩,
 ⟨some 27, none, .mv false (.s 7)⟩,
 ⟨some 28, none, .nilchk (.s 26)⟩,
 ⟨some 29, none, .fieldAddr 1 (.s 28)⟩,
 ⟨none, none, .store none 0 false (.s 29) (.s 27)⟩]) (
 z6V)) (
 .ghost (.keep [0, 5, 6]) .skip)
def z1x : z5a :=
 .seq (
 .region [0, 4] [] [
 ⟨some 40, none, .mv true (.s 5)⟩,
 ⟨some 4, none, .mv true (.s 40)⟩]) (
 .ret)
def z0x : z5a :=
 .seq (
 .region [0, 5] [.norm [0]] [
 ⟨some 31, none, .mv false (.s 0)⟩,
 ⟨some 32, none, .mv false (.s 0)⟩,
 ⟨some 33, none, .nilchk (.s 32)⟩,
 ⟨some 34, none, .fieldAddr 0 (.s 33)⟩,
 ⟨some 35, none, .load none (some 0) false (.s 34)⟩,
 ⟨some 36, none, .mv false (.s 6)⟩,
 ⟨some 37, none, .slSl 1 (.s 35) (some (.s 36)) none none⟩,
 ⟨some 38, none, .nilchk (.s 31)⟩,
 ⟨some 39, none, .fieldAddr 0 (.s 38)⟩,
 ⟨none, none, .store none 0 true (.s 39) (.s 37)⟩]) (
 z1x)
def z4x : z5a :=
 .seq (
 .seq (
 .region [0, 4, 5, 6, 7, 25] [] [
 ⟨some 24, none, .mv false (.s 7)⟩,
 ⟨some 25, none, .bin .neq (.s 24) (.c (i64 0))⟩]) (
 z4w)) (
 z0x)
def z5w : z5a :=
 .seq (
 .region [0, 4, 5, 6, 7] [.norm [0]] [
 ⟨some 15, none, .mv false (.s 1)⟩,
 ⟨some 16, none, .mv false (.s 0)⟩,
 ⟨some 17, none, .nilchk (.s 16)⟩,
 ⟨some 18, none, .fieldAddr 0 (.s 17)⟩,
 ⟨some 19, none, .load none (some 0) false (.s 18)⟩,
 ⟨some 20, none, .callv 52 (.s 15) [(.s 19)] []⟩,
 ⟨some 14, none, .mv false (.s 20)⟩,
 ⟨some 21, none, .extract 0 (.s 14)⟩,
 ⟨some 22, none, .extract 1 (.s 14)⟩,
 ⟨some 23, none, .extract 2 (.s 14)⟩,
 ⟨some 5, none, .mv true (.s 21)⟩,
 ⟨some 6, none, .mv false (.s 22)⟩,
 ⟨some 7, none, .mv false (.s 23)⟩]) (
 z4x)
def z2x : z5a :=
 .seq (
 .seq (
 .region [0, 1, 4, 12] [.norm [0]] [
 ⟨some 8, none, .mv false (.s 0)⟩,
 ⟨some 9, none, .nilchk (.s 8)⟩,
 ⟨some 10, none, .fieldAddr 1 (.s 9)⟩,
 ⟨some 11, none, .load none (some 0) false (.s 10)⟩,
 ⟨some 12, none, .bin .neq (.s 11) (.c (i64 0))⟩]) (
 z8w)) (
 z5w)
def z5e : z9q :=
 { n := 2, wr := [], res := [.t 4], body :=
 .seq (
 .region [0, 1, 4] [] [
 ⟨some 4, none, .mv true (.c (.sl (.own 1) none 0 []))⟩]) (
 z2x) }

def z7K : z5a :=
 .cond (.s 15) (
 .region [0] [.norm [0]] [
 ⟨some 16, none, .mv false (.s 0)⟩,
 ⟨some 17, none, .mv false (.s 2)⟩,
 ⟨some 18, none, .nilchk (.s 16)⟩,
 ⟨some 19, none, .fieldAddr 1 (.s 18)⟩,
 ⟨none, none, .store none 0 false (.s 19) (.s 17)⟩]) (
 .ghost (.keep [0]) .skip)
def z8K : z5a :=
 .seq (
 .region [0, 6] [.norm [0]] [
 ⟨some 20, none, .mv false (.s 0)⟩,
 ⟨some 21, none, .nilchk (.s 20)⟩,
 ⟨some 22, none, .fieldAddr 1 (.s 21)⟩,
 ⟨some 23, none, .load none (some 0) false (.s 22)⟩,
 ⟨some 24, none, .bin .eql (.s 23) (.c (i64 0))⟩,
 ⟨some 6, none, .mv false (.s 24)⟩]) (
 .ret)
def z3K : z5a :=
 .seq (
 .seq (
 .region [0, 2, 15] [.norm [0]] [
 ⟨some 7, none, .mv false (.s 0)⟩,
 ⟨some 8, none, .nilchk (.s 7)⟩,
 ⟨some 9, none, .fieldAddr 1 (.s 8)⟩,
 ⟨some 10, none, .load none (some 0) false (.s 9)⟩,
 ⟨some 11, none, .bin .eql (.s 10) (.c (i64 0))⟩,
 ⟨some 12, none, .mv false (.s 11)⟩,
 ⟨some 13, (some (12, true)), .mv false (.s 1)⟩,
 ⟨some 14, (some (12, true)), .un .not (.s 13)⟩,
 ⟨some 15, none, .pick (.s 12) (.s 14) (.c (bo false))⟩]) (
 z7K)) (
 z8K)
def z5i : z9q :=
 { n := 3, wr := [], res := [.t 6], body :=
 .seq (
 .region [0, 1, 2] [] [
 ⟨some 6, none, .mv false (.c (bo false))⟩]) (
 z3K) }

def z9u : z5a :=
 .cond (.s 12) (
 .seq (
 .region [0, 4] [] [
 ⟨some 13, none, .mv false (.s 4)⟩,
 ⟨some 4, none, .mv false (.s 13)⟩]) (
 .ret)) (
 .ghost (.keep [0, 1, 4]) .skip)
def z8U : z5a :=
 .seq (
 .region [0, 4] [] [
 ⟨some 30, none, .mv false (.s 4)⟩,
 ⟨some 4, none, .mv false (.s 30)⟩]) (
 .ret)
def z0u : z5a :=
 .cond (.s 25) (
 .seq (
 .region [0, 4] [.norm [0]] [
 ⟨some 26, none, .mv false (.s 0)⟩,
 ⟨some 27, none, .mv false (.s 7)⟩,
 ⟨some 28, none, .nilchk (.s 26)⟩,
 ⟨some 29, none, .fieldAddr 1 (.s 28)⟩,
 ⟨none, none, .store none 0 false (.s 29) (.s 27)⟩]) (
 z8U)) (
 .ghost (.keep [0, 5, 6]) .skip)
def z1u : z5a :=
 .seq (
 .region [0, 4] [] [
 ⟨some 40, none, .mv false (.s 5)⟩,
 ⟨some 4, none, .mv false (.s 40)⟩]) (
 .ret)
def z2u : z5a :=
 .seq (
 .region [0, 5] [.norm [0]] [
 ⟨some 31, none, .mv false (.s 0)⟩,
 ⟨some 32, none, .mv false (.s 0)⟩,
 ⟨some 33, none, .nilchk (.s 32)⟩,
 ⟨some 34, none, .fieldAddr 0 (.s 33)⟩,
 ⟨some 35, none, .load none (some 0) false (.s 34)⟩,
 ⟨some 36, none, .mv false (.s 6)⟩,
 ⟨some 37, none, .slSl 1 (.s 35) (some (.s 36)) none none⟩,
 ⟨some 38, none, .nilchk (.s 31)⟩,
 ⟨some 39, none, .fieldAddr 0 (.s 38)⟩,
 ⟨none, none, .store none 0 true (.s 39) (.s 37)⟩]) (
 z1u)
def z5u : z5a :=
 .seq (
 .seq (
 .region [0, 4, 5, 6, 7, 25] [] [
 ⟨some 24, none, .mv false (.s 7)⟩,
 ⟨some 25, none, .bin .neq (.s 24) (.c (i64 0))⟩]) (
 z0u)) (
 z2u)
def z7u : z5a :=
 .seq (
 .region [0, 4, 5, 6, 7] [.norm [0]] [
 ⟨some 15, none, .mv false (.s 1)⟩,
 ⟨some 16, none, .mv false (.s 0)⟩,
 ⟨some 17, none, .nilchk (.s 16)⟩,
 ⟨some 18, none, .fieldAddr 0 (.s 17)⟩,
 ⟨some 19, none, .load none (some 0) false (.s 18)⟩,
 ⟨some 20, none, .callv 48 (.s 15) [(.s 19)] []⟩,
 ⟨some 14, none, .mv false (.s 20)⟩,
 ⟨some 21, none, .extract 0 (.s 14)⟩,
 ⟨some 22, none, .extract 1 (.s 14)⟩,
 ⟨some 23, none, .extract 2 (.s 14)⟩,
 ⟨some 5, none, .mv false (.s 21)⟩,
 ⟨some 6, none, .mv false (.s 22)⟩,
 ⟨some 7, none, .mv false (.s 23)⟩]) (
 z5u)
def z4u : z5a :=
 .seq (
 .seq (
 .region [0, 1, 4, 12] [.norm [0]] [
 ⟨some 8, none, .mv false (.s 0)⟩,
 ⟨some 9, none, .nilchk (.s 8)⟩,
 ⟨some 10, none, .fieldAddr 1 (.s 9)⟩,
 ⟨some 11, none, .load none (some 0) false (.s 10)⟩,
 ⟨some 12, none, .bin .neq (.s 11) (.c (i64 0))⟩]) (
 z9u)) (
 z7u)
def z1e : z9q :=
 { n := 2, wr := [], res := [.t 4], body :=
 .seq (
 .region [0, 1, 4] [] [
 ⟨some 4, none, .mv false (.c (st []))⟩]) (
 z4u) }

def z8C : z5a :=
 .region [0, 4, 5, 22, 23, 24] [.norm [0, 4, 15, 22]] [
 ⟨some 28, none, .mv false (.s 7)⟩,
 ⟨some 29, none, .mv false (.s 5)⟩,
 ⟨some 30, none, .callm 326 none [(.s 29), (.c (.fn 45 [] []))] [(0, 15)] []⟩,
 ⟨some 31, none, .nilchk (.s 28)⟩,
 ⟨none, none, .store none 4 false (.s 31) (.s 30)⟩]
def z2B : z5a :=
 .seq (
 .block 1 (
 .seq (
 .region [0, 4, 5, 7, 22, 23, 24] [.norm [0, 4, 15, 22]] [
 ⟨some 26, none, .idxSl 1 (.s 22) (.s 24)⟩,
 ⟨some 27, none, .load none (some 22) false (.s 26)⟩,
 ⟨some 7, none, .mv false (.s 27)⟩]) (
 z8C))) (
 .region [0, 4, 5, 22, 23, 24] [] [
 ⟨some 32, none, .bin .add (.s 24) (.c (i64 1))⟩,
 ⟨some 24, none, .mv false (.s 32)⟩])
def z1q : z5a :=
 .seq (
 .cond (.s 25) (
 .ghost (.keep [0, 4, 5, 22, 23, 24]) .skip) (
 .ghost (.keep [0, 4, 5]) (.exit 0))) (
 z2B)
def z2q : z5a :=
 .seq (
 .region [0, 4, 5, 22, 23, 24, 25] [] [
 ⟨some 25, none, .bin .lss (.s 24) (.s 23)⟩]) (
 z1q)
def z42 : z5a :=
 .block 0 (
 .loop z2q)
def z6A : z5a :=
 .seq (
 .region [0, 4] [.norm [0, 4, 15, 22]] [
 ⟨some 54, none, .load (some 8) (some 4) false (.s 4)⟩,
 ⟨none, none, .store (some 8) 4 false (.s 4) (.s 54)⟩]) (
 .ret)
def z2C : z5a :=
 .seq (
 .region [0, 4] [.norm [0, 4, 15, 22]] [
 ⟨some 47, none, .mv false (.s 0)⟩,
 ⟨some 48, none, .mv false (.s 5)⟩,
 ⟨some 49, none, .nilchk (.s 48)⟩,
 ⟨some 50, none, .fieldAddr 1 (.s 49)⟩,
 ⟨some 51, none, .load none (some 15) false (.s 50)⟩,
 ⟨some 52, none, .nilchk (.s 47)⟩,
 ⟨some 53, none, .fieldAddr 1 (.s 52)⟩,
 ⟨none, none, .store none 0 false (.s 53) (.s 51)⟩]) (
 z6A)
def z8B : z5a :=
 .seq (
 .region [0, 4, 5] [.norm [0, 4, 15, 22]] [
 ⟨some 39, none, .mv false (.s 5)⟩,
 ⟨some 40, none, .mv false (.s 5)⟩,
 ⟨some 41, none, .nilchk (.s 40)⟩,
 ⟨some 42, none, .fieldAddr 0 (.s 41)⟩,
 ⟨some 43, none, .load none (some 15) false (.s 42)⟩,
 ⟨some 44, none, .len false (.s 43)⟩,
 ⟨some 45, none, .bin .eql (.s 44) (.c (i64 0))⟩,
 ⟨some 46, none, .callm 316 none [(.s 39), (.s 45), (.c (i64 6))] [(0, 15)] []⟩]) (
 z2C)
def z3C : z5a :=
 .seq (
 .region [0, 4, 5] [.norm [0, 4, 15, 22]] [
 ⟨some 36, none, .mv false (.s 5)⟩,
 ⟨some 37, none, .callm 323 none [(.s 36), (.c (.fn 52 [] []))] [(0, 15)] []⟩,
 ⟨some 38, none, .fieldAddr 7 (.s 4)⟩,
 ⟨none, none, .store none 4 true (.s 38) (.s 37)⟩]) (
 z8B)
def z5B : z5a :=
 .seq (
 .region [0, 4, 5] [.norm [0, 4, 15, 22]] [
 ⟨some 33, none, .mv false (.s 5)⟩,
 ⟨some 34, none, .callm 324 none [(.s 33), (.c (.fn 48 [] []))] [(0, 15)] []⟩,
 ⟨some 35, none, .fieldAddr 6 (.s 4)⟩,
 ⟨none, none, .store none 4 false (.s 35) (.s 34)⟩]) (
 z3C)
def z7B : z5a :=
 .seq (
 .seq (
 .region [0, 4, 5, 22, 23, 24] [.norm [0, 4, 15, 22]] [
 ⟨some 16, none, .fieldAddr 0 (.s 4)⟩,
 ⟨some 17, none, .fieldAddr 1 (.s 4)⟩,
 ⟨some 18, none, .fieldAddr 2 (.s 4)⟩,
 ⟨some 19, none, .fieldAddr 3 (.s 4)⟩,
 ⟨some 20, none, .fieldAddr 4 (.s 4)⟩,
 ⟨some 21, none, .fieldAddr 5 (.s 4)⟩,
 ⟨some 22, none, .buildBx 22 1 6 [.lit (.pointer none), .lit (.pointer none), .lit (.pointer none), .lit (.pointer none), .lit (.pointer none), .lit (.pointer none)] [(0, 1, (.s 16)), (1, 1, (.s 17)), (2, 1, (.s 18)), (3, 1, (.s 19)), (4, 1, (.s 20)), (5, 1, (.s 21))]⟩,
 ⟨some 23, none, .len false (.s 22)⟩,
 ⟨some 24, none, .mv false (.c (i64 0))⟩]) (
 z42)) (
 z5B)
def z4B : z5a :=
 .seq (
 .region [0, 4, 5] [.norm [0, 4, 15]] [
 ⟨some 8, none, .mv false (.s 1)⟩,
 ⟨some 9, none, .toBytes (.s 8)⟩,
 ⟨some 10, none, .mv false (.s 0)⟩,
 ⟨some 11, none, .nilchk (.s 10)⟩,
 ⟨some 12, none, .fieldAddr 1 (.s 11)⟩,
 ⟨some 13, none, .load none (some 0) false (.s 12)⟩,
 ⟨some 14, none, .build [.sl .plain none 0 [], i64 0] [(0, 1, (.s 9)), (1, 1, (.s 13))]⟩,
 ⟨some 15, none, .box 15 (some 2) false (.s 14)⟩,
 ⟨some 5, none, .mv false (.s 15)⟩]) (
 z7B)
def z6d : z9q :=
 { n := 2, wr := [], res := [.cell 4 (some 8) 4], body :=
 .seq (
 .region [0, 1, 4] [.norm [0, 4]] [
 ⟨some 4, none, .alloc 4 (List.replicate 6 (i64 0) ++ [st []] ++ [.sl .plain none 0 []])⟩]) (
 z4B) }

def z0w : z5a :=
 .cond (.s 12) (
 .seq (
 .region [0, 4] [.norm [0, 4]] [
 ⟨some 13, none, .load (some 16) (some 4) false (.s 4)⟩,
 ⟨none, none, .store (some 16) 4 false (.s 4) (.s 13)⟩]) (
 .ret)) (
 .ghost (.keep [0, 1, 4]) .skip)
def z0W : z5a :=
 .seq (
 .region [0, 4] [.norm [0, 4, 5]] [
 ⟨some 30, none, .load (some 16) (some 4) false (.s 4)⟩,
 ⟨none, none, .store (some 16) 4 false (.s 4) (.s 30)⟩]) (
 .ret)
def z6x : z5a :=
 .cond (.s 25) (
 .seq (
 .region [0, 4] [.norm [0, 4, 5]] [
 ⟨some 26, none, .mv false (.s 0)⟩,
 ⟨some 27, none, .mv false (.s 7)⟩,
 ⟨some 28, none, .nilchk (.s 26)⟩,
 ⟨some 29, none, .fieldAddr 1 (.s 28)⟩,
 ⟨none, none, .store none 0 false (.s 29) (.s 27)⟩]) (
 z0W)) (
 .ghost (.keep [0, 4, 5, 6]) .skip)
def z2w : z5a :=
 .seq (
 .region [0, 4] [.norm [0, 4, 5]] [
 ⟨some 40, none, .load (some 16) (some 5) false (.s 5)⟩,
 ⟨none, none, .store (some 16) 4 false (.s 4) (.s 40)⟩]) (
 .ret)
def z9w : z5a :=
 .seq (
 .region [0, 4, 5] [.norm [0, 4, 5]] [
 ⟨some 31, none, .mv false (.s 0)⟩,
 ⟨some 32, none, .mv false (.s 0)⟩,
 ⟨some 33, none, .nilchk (.s 32)⟩,
 ⟨some 34, none, .fieldAddr 0 (.s 33)⟩,
 ⟨some 35, none, .load none (some 0) false (.s 34)⟩,
 ⟨some 36, none, .mv false (.s 6)⟩,
 ⟨some 37, none, .slSl 1 (.s 35) (some (.s 36)) none none⟩,
 ⟨some 38, none, .nilchk (.s 31)⟩,
 ⟨some 39, none, .fieldAddr 0 (.s 38)⟩,
 ⟨none, none, .store none 0 true (.s 39) (.s 37)⟩]) (
 z2w)
def z1w : z5a :=
 .seq (
 .seq (
 .region [0, 4, 5, 6, 7, 25] [] [
 ⟨some 24, none, .mv false (.s 7)⟩,
 ⟨some 25, none, .bin .neq (.s 24) (.c (i64 0))⟩]) (
 z6x)) (
 z9w)
def z3x : z5a :=
 .seq (
 .region [0, 4, 5, 6, 7] [.norm [0, 4, 5]] [
 ⟨some 15, none, .mv false (.s 1)⟩,
 ⟨some 16, none, .mv false (.s 0)⟩,
 ⟨some 17, none, .nilchk (.s 16)⟩,
 ⟨some 18, none, .fieldAddr 0 (.s 17)⟩,
 ⟨some 19, none, .load none (some 0) false (.s 18)⟩,
 ⟨some 20, none, .callv 320 (.s 15) [(.s 19)] []⟩,
 ⟨some 14, none, .mv false (.s 20)⟩,
 ⟨some 21, none, .extract 0 (.s 14)⟩,
 ⟨some 22, none, .extract 1 (.s 14)⟩,
 ⟨some 23, none, .extract 2 (.s 14)⟩,
 ⟨some 5, none, .alloc 5 (bys (z2c 16))⟩,
 ⟨none, none, .store (some 16) 5 false (.s 5) (.s 21)⟩,
 ⟨some 6, none, .mv false (.s 22)⟩,
 ⟨some 7, none, .mv false (.s 23)⟩]) (
 z1w)
def z5x : z5a :=
 .seq (
 .seq (
 .region [0, 1, 4, 12] [.norm [0, 4]] [
 ⟨some 8, none, .mv false (.s 0)⟩,
 ⟨some 9, none, .nilchk (.s 8)⟩,
 ⟨some 10, none, .fieldAddr 1 (.s 9)⟩,
 ⟨some 11, none, .load none (some 0) false (.s 10)⟩,
 ⟨some 12, none, .bin .neq (.s 11) (.c (i64 0))⟩]) (
 z0w)) (
 z3x)
def z4e : z9q :=
 { n := 2, wr := [], res := [.cell 4 (some 16) 4], body :=
 .seq (
 .region [0, 1, 4] [.norm [0, 4]] [
 ⟨some 4, none, .alloc 4 (bys (z2c 16))⟩]) (
 z5x) }

def z87 : z5a :=
 .cond (.s 7) (
 .seq (
 .region [2, 3, 4] [.norm [2]] [
 ⟨some 8, none, .load (some 16) (some 2) false (.s 2)⟩,
 ⟨none, none, .store (some 16) 2 false (.s 2) (.s 8)⟩,
 ⟨some 3, none, .mv false (.c (i64 0))⟩,
 ⟨some 4, none, .mv false (.c (i64 5))⟩]) (
 .ret)) (
 .ghost (.keep [2]) .skip)
def z86 : z5a :=
 .seq (
 .region [2, 3, 4] [.norm [2]] [
 ⟨some 9, none, .mv false (.s 0)⟩,
 ⟨some 10, none, .slSl 1 (.s 9) none (some (.c (i64 16))) none⟩,
 ⟨some 11, none, .s2ap 16 (.s 10)⟩,
 ⟨some 12, none, .load (some 16) none false (.s 11)⟩,
 ⟨none, none, .store (some 16) 2 false (.s 2) (.s 12)⟩,
 ⟨some 3, none, .mv false (.c (i64 16))⟩,
 ⟨some 4, none, .mv false (.c (i64 0))⟩]) (
 .ret)
def z44 : z5a :=
 .seq (
 .seq (
 .region [2, 7] [] [
 ⟨some 5, none, .mv false (.s 0)⟩,
 ⟨some 6, none, .len false (.s 5)⟩,
 ⟨some 7, none, .bin .lss (.s 6) (.c (i64 16))⟩]) (
 z87)) (
 z86)
def z4n : z9q :=
 { n := 1, wr := [], res := [.cell 2 (some 16) 2, .t 3, .t 4], body :=
 .seq (
 .region [2] [.norm [2]] [
 ⟨some 2, none, .alloc 2 (bys (z2c 16))⟩,
 ⟨some 3, none, .mv false (.c (i64 0))⟩,
 ⟨some 4, none, .mv false (.c (i64 0))⟩]) (
 z44) }

def z9x : z5a :=
 .cond (.s 12) (
 .seq (
 .region [0, 4] [] [
 ⟨some 13, none, .mv false (.s 4)⟩,
 ⟨some 4, none, .mv false (.s 13)⟩]) (
 .ret)) (
 .ghost (.keep [0, 1, 4]) .skip)
def z7X : z5a :=
 .seq (
 .region [0, 4] [] [
 ⟨some 30, none, .mv false (.s 4)⟩,
 ⟨some 4, none, .mv false (.s 30)⟩]) (
 .ret)
def z5z : z5a :=
 .cond (.s 25) (
 .seq (
 .region [0, 4] [.norm [0]] [
 ⟨some 26, none, .mv false (.s 0)⟩,
 ⟨some 27, none, .mv false (.s 7)⟩,
 ⟨some 28, none, .nilchk (.s 26)⟩,
 ⟨some 29, none, .fieldAddr 1 (.s 28)⟩,
 ⟨none, none, .store none 0 false (.s 29) (.s 27)⟩]) (
 z7X)) (
 .ghost (.keep [0, 5, 6]) .skip)
def z1y : z5a :=
 .seq (
 .region [0, 4] [] [
 ⟨some 40, none, .mv false (.s 5)⟩,
 ⟨some 4, none, .mv false (.s 40)⟩]) (
 .ret)
def z0y : z5a :=
 .seq (
 .region [0, 5] [.norm [0]] [
 ⟨some 31, none, .mv false (.s 0)⟩,
 ⟨some 32, none, .mv false (.s 0)⟩,
 ⟨some 33, none, .nilchk (.s 32)⟩,
 ⟨some 34, none, .fieldAddr 0 (.s 33)⟩,
 ⟨some 35, none, .load none (some 0) false (.s 34)⟩,
 ⟨some 36, none, .mv false (.s 6)⟩,
 ⟨some 37, none, .slSl 1 (.s 35) (some (.s 36)) none none⟩,
 ⟨some 38, none, .nilchk (.s 31)⟩,
 ⟨some 39, none, .fieldAddr 0 (.s 38)⟩,
 ⟨none, none, .store none 0 true (.s 39) (.s 37)⟩]) (
 z1y)
def z4z : z5a :=
 .seq (
 .seq (
 .region [0, 4, 5, 6, 7, 25] [] [
 ⟨some 24, none, .mv false (.s 7)⟩,
 ⟨some 25, none, .bin .neq (.s 24) (.c (i64 0))⟩]) (
 z5z)) (
 z0y)
def z7y : z5a :=
 .seq (
 .region [0, 4, 5, 6, 7] [.norm [0]] [
 ⟨some 15, none, .mv false (.s 1)⟩,
 ⟨some 16, none, .mv false (.s 0)⟩,
 ⟨some 17, none, .nilchk (.s 16)⟩,
 ⟨some 18, none, .fieldAddr 0 (.s 17)⟩,
 ⟨some 19, none, .load none (some 0) false (.s 18)⟩,
 ⟨some 20, none, .callv 45 (.s 15) [(.s 19)] []⟩,
 ⟨some 14, none, .mv false (.s 20)⟩,
 ⟨some 21, none, .extract 0 (.s 14)⟩,
 ⟨some 22, none, .extract 1 (.s 14)⟩,
 ⟨some 23, none, .extract 2 (.s 14)⟩,
 ⟨some 5, none, .mv false (.s 21)⟩,
 ⟨some 6, none, .mv false (.s 22)⟩,
 ⟨some 7, none, .mv false (.s 23)⟩]) (
 z4z)
def z0z : z5a :=
 .seq (
 .seq (
 .region [0, 1, 4, 12] [.norm [0]] [
 ⟨some 8, none, .mv false (.s 0)⟩,
 ⟨some 9, none, .nilchk (.s 8)⟩,
 ⟨some 10, none, .fieldAddr 1 (.s 9)⟩,
 ⟨some 11, none, .load none (some 0) false (.s 10)⟩,
 ⟨some 12, none, .bin .neq (.s 11) (.c (i64 0))⟩]) (
 z9x)) (
 z7y)
def z9e : z9q :=
 { n := 2, wr := [], res := [.t 4], body :=
 .seq (
 .region [0, 1, 4] [] [
 ⟨some 4, none, .mv false (.c (i64 0))⟩]) (
 z0z) }

end Go.Abs
end

section
namespace Go.Abs
set_option maxRecDepth 100000
@[simp] theorem z1Sc (ids : List Nat) (f : Nat → List z2a) (n : Int) : z8ta ids f (i64 n) = i64 n := rfl
@[simp] theorem z1Yc (ids : List Nat) (f : Nat → List z2a) (b : Bool) : z8ta ids f (bo b) = bo b := rfl
@[simp] theorem z26c (ids : List Nat) (f : Nat → List z2a) (s : List UInt8) : z8ta ids f (st s) = st s := rfl
theorem z7V {l : List Int} (h : ∀ x ∈ l, z3f x) (hl : l.length ≤ 1000000000) : (z3j l).length ≤ 9 * l.length + 9 := by
 have e1 := z6l (n := (l.length : Int)) (by constructor <;> omega)
 have e2 := z7e h
 rw [z3j, List.length_append]
 omega
theorem z10b {m : z4j} (h : m.ok) : (z5ca m).length ≤ 97 := by
 have h1 := z7V (z7na h) (by simp [z7C])
 have h2 := h.2.2.2.2.2.2.2
 rw [z5ca, List.length_append, h2]
 simp only [z7C, List.length_cons, List.length_nil] at h1 ⊢
 omega
theorem z1ga : ∀ {l : List z4j}, z8o l → (l.flatMap z5ca).length ≤ 97 * l.length
 | [], _ => by simp
 | a :: l, h => by
  have h1 := z10b (h a (by simp))
  have h2 := z1ga (l := l) fun m hm => h m (by simp [hm])
  rw [List.flatMap_cons, List.length_append, List.length_cons]
  omega
theorem z6Za {l : List Int} {n : Nat} {cs : List z2a} (nl : Option Bool) (h : ∀ x ∈ l, z3f x) (hl : l.length ≤ 100000000) (hn : n = l.length) (hc : cs = z3i l) : z4J.pre [.sl .plain nl n cs] = True := by
 subst hn hc
 exact z0wa hl h rfl
theorem z3La {l : List Int} {n : Nat} {cs : List z2a} (nl : Option Bool) (hc : cs = z3i l) : z4J.post [.sl .plain nl n cs] = .sl (.own 1) (some false) (z3j l).length (bys (z3j l)) := by
 subst hc
 rw [z4J, z06]; rfl
theorem z7Xa {x : z6w} (h : x.ok) : ∀ z ∈ [x.time, x.kind, x.req, x.mode], z3f z := by
 obtain ⟨h1, h2, h3, h4, _⟩ := h
 intro z hz
 simp only [List.mem_cons, List.not_mem_nil, or_false] at hz
 rcases hz with rfl | rfl | rfl | rfl <;> assumption
def z8ub (x : z6w) : List UInt8 := z3j [x.time, x.kind, x.req, x.mode] ++ (z1P (z3P x.cmd) ++ (x.dig ++ z7m x.made.length))
theorem z8Ra (x : z6w) : z08 x = (z8ub x ++ x.made.flatMap z5ca) ++ z3j x.gone := by simp [z08, z8ub]
theorem z3Ca {x : z6w} (h : x.small) : (z8ub x).length ≤ 2000001000 := by
 have h1 := z7V (z7Xa h.1) (by simp)
 have h2 := z78 h.2.1
 have h3 := z6l (n := ((z3P x.cmd).length : Int)) (by constructor <;> omega)
 have h4 := z6l (n := (x.made.length : Int)) (by have := h.2.2.1; constructor <;> omega)
 have h5 := h.1.2.2.2.2.2.1
 simp only [List.length_cons, List.length_nil] at h1
 rw [z8ub, z1P]
 simp only [List.length_append, h5]
 omega
set_option maxHeartbeats 16000000 in
theorem z7Cb (E : Env) (h39 : E.G 39 = z4J) (h130 : E.G 130 = z0la) (h7 : E.G 7 = z4da) (h12 : E.G 12 = z7ab) (h129 : E.G 129 = z4y) : ∀ ds, z1ia.pre ds → ds.length = z5n.n ∧ awp E z5n.body (z9t z5n.res (z1ia.post ds)) (z6c z5n.wr ds) := by
 rintro _ ⟨nc, nm, ng, x, hx, rfl⟩
 rw [z2S hx, z8Ra]
 have hd := hx.1.2.2.2.2.2.1
 have h16 := hx.1.2.2.2.2.2.2.1
 have hgo := hx.1.2.2.2.2.2.2.2
 have hml := hx.2.2.1
 have hgl := hx.2.2.2
 have hl := z9c (nc := nc) (nm := nm) (ng := ng) hd
 have h28 := z9ba (nc := nc) (nm := nm) (ng := ng) hd
 have h29 := z1fa (nc := nc) (nm := nm) (ng := ng) hd
 have hg := z19 (nc := nc) (nm := nm) (ng := ng) hd
 have hlen := z6p (z0h h16)
 have hHl := z3Ca hx
 have hc2 := z78 hx.2.1
 have hp4 : z4J.pre [.sl .plain (some false) 4 [i64 x.time, i64 x.kind, i64 x.req, i64 x.mode]] = True := z6Za (some false) (z7Xa hx.1) (by simp) rfl rfl
 have hq4 : z4J.post [.sl .plain (some false) 4 [i64 x.time, i64 x.kind, i64 x.req, i64 x.mode]] = _ := z3La (l := [x.time, x.kind, x.req, x.mode]) (some false) rfl
 have hpg : z4J.pre [.sl .plain ng x.gone.length (z3i x.gone)] = True := z6Za ng hgo (by omega) rfl rfl
 have hqg : z4J.post [.sl .plain ng x.gone.length (z3i x.gone)] = _ := z3La (l := x.gone) ng rfl
 have hgle := z7V hgo (by omega)
 have hib := z9La (n := (x.made.length : Int)) (by omega) (by omega)
 have hcp : z4y.pre [.sl .plain (some false) 4 [.sl (.own 1) (some false) (z3j [x.time, x.kind, x.req, x.mode]).length (bys (z3j [x.time, x.kind, x.req, x.mode])), .sl (.own 1) (some false) (z1P (z3P x.cmd)).length (bys (z1P (z3P x.cmd))), .sl .plain (some false) 16 (bys x.dig), .sl (.own 1) (some false) (z7m x.made.length).length (bys (z7m x.made.length))]] = True := by
  have := z1la (nl := some false) (n := 4) (ps := [(true, some false, z3j [x.time, x.kind, x.req, x.mode]), (true, some false, z1P (z3P x.cmd)), (false, some false, x.dig), (true, some false, z7m x.made.length)]) (by
   have e := hHl
   simp only [z8ub, List.length_append] at e
   simp only [z9Sb, List.map_cons, List.map_nil, List.sum_cons, List.sum_nil]
   omega) (by simp) rfl
  rw [← hd]
  exact this
 have hcq : z4y.post [.sl .plain (some false) 4 [.sl (.own 1) (some false) (z3j [x.time, x.kind, x.req, x.mode]).length (bys (z3j [x.time, x.kind, x.req, x.mode])), .sl (.own 1) (some false) (z1P (z3P x.cmd)).length (bys (z1P (z3P x.cmd))), .sl .plain (some false) 16 (bys x.dig), .sl (.own 1) (some false) (z7m x.made.length).length (bys (z7m x.made.length))]] = .sl (.own 1) none (z8ub x).length (bys (z8ub x)) := by
  have := z1ea (some false) 4 [(true, some false, z3j [x.time, x.kind, x.req, x.mode]), (true, some false, z1P (z3P x.cmd)), (false, some false, x.dig), (true, some false, z7m x.made.length)]
  simp only [List.flatMap_cons, List.flatMap_nil, List.append_nil] at this
  rw [← hd]
  exact this
 generalize hH : z8ub x = H at *
 generalize hG : z3j x.gone = G at *
 generalize h4 : z3j [x.time, x.kind, x.req, x.mode] = e4 at *
 generalize hSS : z1P (z3P x.cmd) = eS at *
 generalize hN : z7m x.made.length = eN at *
 simp (maxSteps := 1000000) (disch := first | omega | (simp; done) | (simp; omega)) [z7a, z1a, z0a, z5n, hl, h39, hp4, hq4, h130, z3wa hx.2.1, z3oa, h7, z5za, hSS, hg, h28, h12, hib, hN, h129, hcp, hcq, -z1a, -List.length_append]
 refine z3a fun Q0 hQ0 => ?_
 refine z3d (fun i : Nat => ⟨[(0, .agg (z5k nc nm ng x))], [(1, .ep (z5k nc nm ng x)), (3, .sl (.own 1) none (H ++ (x.made.take i).flatMap z5ca).length (bys (H ++ (x.made.take i).flatMap z5ca))), (31, .sl .plain nm x.made.length (z8d x.made)), (32, i64 x.made.length), (33, i64 i)], []⟩)
  (fun i => x.made.length - i) (fun i => i ≤ x.made.length) 0 (by simp) (by simp) fun i hi => ?_
 refine z3a fun Q1 hQ1 => ?_
 have hBl : (H ++ (x.made.take i).flatMap z5ca).length ≤ 2000001000 + 97 * i := by
  have := z1ga (l := x.made.take i) fun m hm => h16 m (List.mem_of_mem_take hm)
  rw [List.length_append]
  rw [List.length_take] at this
  omega
 by_cases h1 : i < x.made.length
 ·have hm := h16 _ (z7qa h1)
  have hmd := hm.2.2.2.2.2.2.2
  have ha := z6Oa h16 h1
  have hmll := z9p hmd
  have hle : 24 ≤ x.made.length * 24 - i * 24 := by omega
  have hle2 : i * 24 ≤ x.made.length * 24 := by omega
  have hs : (x.made.take (i + 1)).flatMap z5ca = (x.made.take i).flatMap z5ca ++ z5ca (atD x.made i) := by
   rw [List.take_succ_eq_append_getElem h1, List.flatMap_append, z2ka h1]; simp
  have hnok := z7na hm
  have e8l := z7V hnok (by simp [z7C])
  generalize hX : atD x.made i = X at *
  have sp : splice (i64 0 :: i64 0 :: i64 0 :: i64 0 :: i64 0 :: i64 0 :: i64 0 :: bo false :: bys (z2c 16)) 0 (z8u X) = z8u X := z0ra hmd rfl
  have mtk := z2Sa hmd
  have nl8 : (z7C X).length = 8 := rfl
  rw [nl8] at e8l
  have key : ∀ r : Int, z4gc X.raw = r → z4J.pre [.sl .plain (some false) 8 [i64 X.id, i64 X.ty, i64 X.uses, i64 X.beg, i64 X.fin, i64 X.ver, i64 X.par, i64 r]] = True ∧
    z4J.post [.sl .plain (some false) 8 [i64 X.id, i64 X.ty, i64 X.uses, i64 X.beg, i64 X.fin, i64 X.ver, i64 X.par, i64 r]] = .sl (.own 1) (some false) (z3j (z7C X)).length (bys (z3j (z7C X))) := by
   rintro r rfl
   exact ⟨z6Za (l := z7C X) (some false) hnok (by rw [nl8]; omega) rfl rfl, z3La (l := z7C X) (some false) rfl⟩
  have hcat : z5ca X = z3j (z7C X) ++ X.dig := rfl
  generalize hE : z3j (z7C X) = e8 at *
  generalize hB : H ++ (x.made.take i).flatMap z5ca = B at *
  have hcp8 : z4y.pre [.sl .plain (some false) 3 [.sl (.own 1) none B.length (bys B), .sl (.own 1) (some false) e8.length (bys e8), .sl .plain (some false) 16 (bys X.dig)]] = True := by
   have := z1la (nl := some false) (n := 3) (ps := [(true, none, B), (true, some false, e8), (false, some false, X.dig)]) (by
    simp only [z9Sb, List.map_cons, List.map_nil, List.sum_cons, List.sum_nil]
    omega) (by simp) rfl
   rw [← hmd]
   exact this
  have hcq8 : z4y.post [.sl .plain (some false) 3 [.sl (.own 1) none B.length (bys B), .sl (.own 1) (some false) e8.length (bys e8), .sl .plain (some false) 16 (bys X.dig)]] = .sl (.own 1) none (B ++ z5ca X).length (bys (B ++ z5ca X)) := by
   have := z1ea (some false) 3 [(true, none, B), (true, some false, e8), (false, some false, X.dig)]
   simp only [List.flatMap_cons, List.flatMap_nil, List.append_nil] at this
   rw [← hmd, hcat]
   exact this
  have hs' : H ++ (x.made.take (i + 1)).flatMap z5ca = B ++ z5ca X := by rw [hs, ← List.append_assoc, hB]
  generalize hBX : B ++ z5ca X = B' at *
  cases hr : X.raw
  ·obtain ⟨k1, k2⟩ := key 0 (by rw [hr]; rfl)
   simp (maxSteps := 1000000) (disch := first | omega | (simp; done) | (simp; omega)) [z7a, z1a, z0a, z1A, z4P, z7Q, kT, kF, dT, dF, h1, hlen, hle, hle2, ha, sp, hmll, mtk, z5L, z9Y, hr, h39, k1, k2, h129, hcp8, hcq8, z0yc hmd, hmd, hQ1, -z1a, -List.length_append]
   exact ⟨i + 1, by omega, by omega, ⟨by rw [hs'], by rw [hs']⟩, by omega⟩
  ·obtain ⟨k1, k2⟩ := key 1 (by rw [hr]; rfl)
   simp (maxSteps := 1000000) (disch := first | omega | (simp; done) | (simp; omega)) [z7a, z1a, z0a, z1A, z4P, z7Q, kT, kF, dT, dF, h1, hlen, hle, hle2, ha, sp, hmll, mtk, z5L, z9Y, hr, h39, k1, k2, h129, hcp8, hcq8, z0yc hmd, hmd, hQ1, -z1a, -List.length_append]
   exact ⟨i + 1, by omega, by omega, ⟨by rw [hs'], by rw [hs']⟩, by omega⟩
 ·obtain rfl : i = x.made.length := by omega
  rw [List.take_length] at *
  generalize hB : H ++ x.made.flatMap z5ca = B at *
  simp (maxSteps := 1000000) (disch := first | omega | (simp; done) | (simp; omega)) [z7a, z1a, z0a, z1A, kT, kF, dT, dF, hQ1, hQ0, z05, hl, h29, h39, hpg, hqg, -List.length_append]
  exact ⟨by omega, List.length_append, by rw [← hB, List.append_assoc]⟩
theorem z9Hb (E : Env) (h302 : E.G 302 = z1ia) (h8 : E.G 8 = ofC) : ∀ ds, z4oa.pre ds → ds.length = z8n.n ∧ awp E z8n.body (z9t z8n.res (z4oa.post ds)) (z6c z8n.wr ds) := by
 rintro _ ⟨nc, nm, ng, x, hx, rfl⟩
 rw [z6X hx]
 have hd := hx.1.2.2.2.2.2.1
 have hl := z9c (nc := nc) (nm := nm) (ng := ng) hd
 have htk := z5m (nc := nc) (nm := nm) (ng := ng) hd
 have hle : (z08 x).length ≤ 2200000000 := by
  have h1 := z3Ca hx
  have h2 := z1ga hx.1.2.2.2.2.2.2.1
  have h3 := z7V hx.1.2.2.2.2.2.2.2 (by have := hx.2.2.2; omega)
  have h4 := hx.2.2.1
  have h5 := hx.2.2.2
  rw [z8Ra, List.length_append, List.length_append]
  omega
 have hp : ofC.pre [i64 8, .sl .plain (some false) 1 [st (z08 x)]] = True := z8Ub (l := [z08 x]) rfl (by rw [z4lc]; omega)
 simp (maxSteps := 1000000) (disch := first | omega | (simp; done) | (simp; omega)) [z7a, z1a, z0a, z8n, hl, htk, h302, z4ha hx, z2S hx, h8, hp, z7q, z2z, z0t, z4va, z8m]
end Go.Abs
end

section
namespace Go.Abs
set_option maxRecDepth 100000
def rdE (nb : Option Bool) (b : List UInt8) : List z2a := [.sl .plain nb b.length (bys b), i64 0]
def qN (ds : List z2a) : Option Bool := gNl (nth (gCs (nth ds 0)) 0)
def qB (ds : List z2a) : List UInt8 := gBs (gCs (nth (gCs (nth ds 0)) 0))
@[simp] theorem qN_e (nb : Option Bool) (b : List UInt8) (n : Nat) (x : z2a) (r : List z2a) : qN (.ep [.sl .plain nb n (bys b), x] :: r) = nb := by simp [qN, gNl, nth]
@[simp] theorem qB_e (nb : Option Bool) (b : List UInt8) (n : Nat) (x : z2a) (r : List z2a) : qB (.ep [.sl .plain nb n (bys b), x] :: r) = b := by simp [qB, nth]
def z0ia : CM := ⟨[0], [], fun ds => ∃ (nb : Option Bool) (b : List UInt8), ds = [.ep (rdE nb b), bo true, i64 6], fun _ => bo true, fun ds _ => rdE (qN ds) (qB ds)⟩
def rdM (f : Nat) (v : List UInt8 → z2a) (u e : List UInt8 → Nat) : CM := ⟨[0], [], fun ds => ∃ (nb : Option Bool) (b : List UInt8), b.length ≤ 1000000000 ∧ e b = 0 ∧ u b ≤ b.length ∧ ds = [.ep (rdE nb b), .fn f [] []], fun ds => v (qB ds), fun ds _ => rdE (qN ds) ((qB ds).drop (u (qB ds)))⟩
def z5V : CM := rdM 45 (fun b => i64 (z0l b).1) (fun b => (z0l b).2.1) (fun b => (z0l b).2.2)
def z4V : CM := rdM 48 (fun b => st (z9ia b).1) (fun b => (z9ia b).2.1) (fun b => (z9ia b).2.2)
def z6v : CM := rdM 52 (fun b => .sl .plain none (z0v z0l 1 b).1.length (z3i (z0v z0l 1 b).1)) (fun b => (z0v z0l 1 b).2.1) (fun b => (z0v z0l 1 b).2.2)
def z1V : CM := rdM 320 (fun b => .agg (bys (b.take 16))) (fun _ => 16) (fun b => if b.length < 16 then 5 else 0)
def z0Ua : z4a := ⟨fun ds => ∃ (nl : Option Bool) (b : List UInt8), 16 ≤ b.length ∧ b.length ≤ 1000000000 ∧ ds = [.sl .plain nl b.length (bys b)], fun ds => .tup [.agg (bys ((gBs (gCs (nth ds 0))).take 16)), i64 16, i64 0]⟩
theorem z5Bb {nl : Option Bool} {n : Nat} {b : List UInt8} (h : 16 ≤ b.length) (h' : b.length ≤ 1000000000) (hn : n = b.length) : z0Ua.pre [.sl .plain nl n (bys b)] = True := eq_true ⟨nl, b, h, h', by rw [hn]⟩
theorem z1Qa (nl : Option Bool) (n : Nat) (b : List UInt8) : z0Ua.post [.sl .plain nl n (bys b)] = .tup [.agg (bys (b.take 16)), i64 16, i64 0] := by simp [z0Ua, nth]
theorem sp16 {b : List UInt8} (h : 16 ≤ b.length) : splice (bys (z2c 16)) 0 (bys (b.take 16)) = bys (b.take 16) := by
 have hl : (bys (b.take 16)).length = 16 := by simp [h]
 rw [splice, hl]
 simp [z2c, bys]
theorem tk16 {b : List UInt8} (h : 16 ≤ b.length) : (bys (b.take 16)).take 16 = bys (b.take 16) := List.take_of_length_le (by simp; omega)
theorem ln16 {b : List UInt8} (h : 16 ≤ b.length) : (bys (b.take 16)).length = 16 := by simp [h]
theorem tkd (b : List UInt8) (n : Nat) : (b.drop n).take (b.length - n) = b.drop n := List.take_of_length_le (by simp)
theorem z8bc (E : Env) : ∀ ds, z0Ua.pre ds → ds.length = z4n.n ∧ awp E z4n.body (z9t z4n.res (z0Ua.post ds)) (z6c z4n.wr ds) := by
 rintro _ ⟨nl, b, h, h', rfl⟩
 rw [z1Qa]
 have h1 : ¬ b.length < 16 := by omega
 have h2 : (b.take 16).take 16 = b.take 16 := List.take_of_length_le (by simp; omega)
 simp (maxSteps := 1000000) (disch := first | omega | (simp; done) | (simp; omega)) [z7a, z1a, z0a, z4n, z44, z87, z86, h, h1, kF, dF, kT, dT]
 rw [h2, sp16 h, tk16 h, ln16 h]
 exact ⟨by omega, by omega, rfl⟩
theorem z1bc (E : Env) : ∀ ds p, z0ia.pre ds → ds.length = z5i.n ∧ awp E z5i.body (z21a z5i.res z0ia p ds) (z9ka z0ia.bx p ds) := by
 rintro _ p ⟨nb, b, rfl⟩
 simp (maxSteps := 1000000) (disch := first | omega | (simp; done) | (simp; omega)) [z7a, z1a, z0a, z5i, z3K, z7K, z8K, kT, kF, dT, dF, z0ia, rdE]
theorem z8Ab (E : Env) (h45 : E.G 45 = z4O) : ∀ ds p, z5V.pre ds → ds.length = z9e.n ∧ awp E z9e.body (z21a z9e.res z5V p ds) (z9ka z5V.bx p ds) := by
 rintro _ p ⟨nb, b, hb, he, hu, rfl⟩
 simp (maxSteps := 1000000) (disch := first | omega | (simp; done) | (simp; omega)) [z7a, z1a, z0a, z9e, z0z, z9x, z7y, z4z, z5z, z0y, z1y, kT, kF, dT, dF, z5V, rdM, rdE, h45, z4O, z8ja, vI, z3o, he, hu, tkd]
theorem z9Fb (E : Env) (h48 : E.G 48 = z7W) : ∀ ds p, z4V.pre ds → ds.length = z1e.n ∧ awp E z1e.body (z21a z1e.res z4V p ds) (z9ka z4V.bx p ds) := by
 rintro _ p ⟨nb, b, hb, he, hu, rfl⟩
 simp (maxSteps := 1000000) (disch := first | omega | (simp; done) | (simp; omega)) [z7a, z1a, z0a, z1e, z4u, z9u, z7u, z5u, z0u, z2u, z1u, kT, kF, dT, dF, z4V, rdM, rdE, h48, z7W, z8ja, z3o, he, hu, tkd]
theorem z3mb (E : Env) (h52 : E.G 52 = z48) : ∀ ds p, z6v.pre ds → ds.length = z5e.n ∧ awp E z5e.body (z21a z5e.res z6v p ds) (z9ka z6v.bx p ds) := by
 rintro _ p ⟨nb, b, hb, he, hu, rfl⟩
 simp (maxSteps := 1000000) (disch := first | omega | (simp; done) | (simp; omega)) [z7a, z1a, z0a, z5e, z2x, z8w, z5w, z4x, z4w, z0x, z1x, kT, kF, dT, dF, z6v, rdM, rdE, h52, z48, z8ja, vIs, z3o, he, hu, tkd]
theorem z1Kb (E : Env) (h320 : E.G 320 = z0Ua) : ∀ ds p, z1V.pre ds → ds.length = z4e.n ∧ awp E z4e.body (z21a z4e.res z1V p ds) (z9ka z1V.bx p ds) := by
 rintro _ p ⟨nb, b, hb, he, hu, rfl⟩
 have h16 : 16 ≤ b.length := hu
 simp (maxSteps := 1000000) (disch := first | omega | (simp; done) | (simp; omega)) [z7a, z1a, z0a, z4e, z5x, z0w, z3x, z1w, z6x, z9w, z2w, kT, kF, dT, dF, z1V, rdM, rdE, h320, z5Bb, z1Qa, he, hu, h16, tkd]
 simp only [sp16 h16, tk16 h16, ln16 h16]
 simp
 omega
end Go.Abs
end

section
namespace Go.Abs
set_option maxRecDepth 100000
theorem z9va (nb : Option Bool) (b : List UInt8) : z0ia.pre [.ep [.sl .plain nb b.length (bys b), i64 0], bo true, i64 6] = True := eq_true ⟨nb, b, rfl⟩
theorem z24 (ds : List z2a) : z0ia.post ds = bo true := rfl
theorem z5ma (nb : Option Bool) (b : List UInt8) (n j : Nat) (r : List z2a) : z0ia.out (.ep [.sl .plain nb n (bys b), i64 0] :: r) j = [.sl .plain nb b.length (bys b), i64 0] := by simp [z0ia, rdE]
@[simp] theorem z19c : z0ia.bx = [0] := rfl
@[simp] theorem z09c : z0ia.nb = [] := rfl
@[simp] theorem z4Wc : z5V.bx = [0] := rfl
@[simp] theorem z9Qc : z5V.nb = [] := rfl
@[simp] theorem z6Tc : z4V.bx = [0] := rfl
@[simp] theorem z5Qc : z4V.nb = [] := rfl
@[simp] theorem z9yc : z6v.bx = [0] := rfl
@[simp] theorem z8vc : z6v.nb = [] := rfl
@[simp] theorem z4Tc : z1V.bx = [0] := rfl
@[simp] theorem z1Qc : z1V.nb = [] := rfl
theorem z4Pa {nb : Option Bool} {b : List UInt8} {n : Nat} (hb : b.length ≤ 1000000000) (he : (z0l b).2.2 = 0) (hn : n = b.length) : z5V.pre [.ep [.sl .plain nb n (bys b), i64 0], .fn 45 [] []] = True := eq_true ⟨nb, b, hb, he, (z0na b).1, by rw [hn]; rfl⟩
theorem z9Ea (nb : Option Bool) (b : List UInt8) (n : Nat) (r : List z2a) : z5V.post (.ep [.sl .plain nb n (bys b), i64 0] :: r) = i64 (z0l b).1 := by simp [z5V, rdM]
theorem z0Sa (nb : Option Bool) (b : List UInt8) (n j : Nat) (r : List z2a) : z5V.out (.ep [.sl .plain nb n (bys b), i64 0] :: r) j = [.sl .plain nb (b.drop (z0l b).2.1).length (bys (b.drop (z0l b).2.1)), i64 0] := by simp [z5V, rdM, rdE]
theorem z0ya {nb : Option Bool} {b : List UInt8} {n : Nat} (hb : b.length ≤ 1000000000) (he : (z9ia b).2.2 = 0) (hn : n = b.length) : z4V.pre [.ep [.sl .plain nb n (bys b), i64 0], .fn 48 [] []] = True := eq_true ⟨nb, b, hb, he, (z9lb b).1, by rw [hn]; rfl⟩
theorem z1Ga (nb : Option Bool) (b : List UInt8) (n : Nat) (r : List z2a) : z4V.post (.ep [.sl .plain nb n (bys b), i64 0] :: r) = st (z9ia b).1 := by simp [z4V, rdM]
theorem z9Ua (nb : Option Bool) (b : List UInt8) (n j : Nat) (r : List z2a) : z4V.out (.ep [.sl .plain nb n (bys b), i64 0] :: r) j = [.sl .plain nb (b.drop (z9ia b).2.1).length (bys (b.drop (z9ia b).2.1)), i64 0] := by simp [z4V, rdM, rdE]
theorem z35 {nb : Option Bool} {b : List UInt8} {n : Nat} (hb : b.length ≤ 1000000000) (he : (z0v z0l 1 b).2.2 = 0) (hn : n = b.length) : z6v.pre [.ep [.sl .plain nb n (bys b), i64 0], .fn 52 [] []] = True := eq_true ⟨nb, b, hb, he, (z7Lb (enc := z7m) (P := z3f) z5vb he).1, by rw [hn]; rfl⟩
theorem z58 (nb : Option Bool) (b : List UInt8) (n : Nat) (r : List z2a) : z6v.post (.ep [.sl .plain nb n (bys b), i64 0] :: r) = .sl .plain none (z0v z0l 1 b).1.length (z3i (z0v z0l 1 b).1) := by simp [z6v, rdM]
theorem z7fa (nb : Option Bool) (b : List UInt8) (n j : Nat) (r : List z2a) : z6v.out (.ep [.sl .plain nb n (bys b), i64 0] :: r) j = [.sl .plain nb (b.drop (z0v z0l 1 b).2.1).length (bys (b.drop (z0v z0l 1 b).2.1)), i64 0] := by simp [z6v, rdM, rdE]
theorem z6Va {nb : Option Bool} {b : List UInt8} {n : Nat} (hb : b.length ≤ 1000000000) (he : 16 ≤ b.length) (hn : n = b.length) : z1V.pre [.ep [.sl .plain nb n (bys b), i64 0], .fn 320 [] []] = True := eq_true ⟨nb, b, hb, if_neg (by omega), he, by rw [hn]; rfl⟩
theorem z4Ga (nb : Option Bool) (b : List UInt8) (n : Nat) (r : List z2a) : z1V.post (.ep [.sl .plain nb n (bys b), i64 0] :: r) = .agg (bys (b.take 16)) := by simp [z1V, rdM]
theorem z7Ra (nb : Option Bool) (b : List UInt8) (n j : Nat) (r : List z2a) : z1V.out (.ep [.sl .plain nb n (bys b), i64 0] :: r) j = [.sl .plain nb (b.drop 16).length (bys (b.drop 16)), i64 0] := by simp [z1V, rdM, rdE]
/-! ### the command -/
def z6ka : CM := ⟨[0], [], fun ds => ∃ (nb : Option Bool) (b : List UInt8), ds = [.ep (rdE nb b), st (z3P dEx)], fun _ => .agg (z2k dEx none), fun ds _ => rdE (qN ds) (qB ds)⟩
theorem z89a : ∃ (s b1 : List UInt8) (u1 u2 : Nat) (c : Cmd), z3P dEx = s ∧ dEx = c ∧ s.length ≤ 100000000 ∧ z5ta 6 s = (six c, b1, 0) ∧ z9ia b1 = (c.data, u1, 0) ∧ z0v z0l 1 (b1.drop u1) = (c.list, u2, 0) ∧ (b1.drop u1).drop u2 = [] := by
 exact ⟨z3P dEx, (z5ta 6 (z3P dEx)).2.1, (z9ia (z5ta 6 (z3P dEx)).2.1).2.1, (z0v z0l 1 ((z5ta 6 (z3P dEx)).2.1.drop (z9ia (z5ta 6 (z3P dEx)).2.1).2.1)).2.1, dEx, rfl, rfl, by decide +kernel, by kernel_rfl, by kernel_rfl, by kernel_rfl, by kernel_rfl⟩
theorem z94c (a b c d e f : Int) : z3i [a, b, c, d, e, f] = [i64 a, i64 b, i64 c, i64 d, i64 e, i64 f] := rfl
theorem z8Sa (nb : Option Bool) : z0ia.pre [.ep [.sl .plain nb 0 [], i64 0], bo true, i64 6] = True := eq_true ⟨nb, [], rfl⟩
theorem z0Wa (nb : Option Bool) (j : Nat) (r : List z2a) : z0ia.out (.ep [.sl .plain nb 0 [], i64 0] :: r) j = [.sl .plain nb 0 [], i64 0] := z5ma nb [] 0 j r
def c00 : Cmd := ⟨0, 0, 0, 0, 0, 0, [], []⟩
def z2rc (nb : Option Bool) (b : List UInt8) (p : Value) (i : Nat) (L : List Int) (t : List UInt8) : ASt := ⟨[(0, .lit p)], [(0, .bp 0 0), (4, .bp 4 0), (5, .bp 15 0), (22, .bv 22 1 0 6 6), (23, i64 6), (24, i64 i)],
 [(0, some [.sl .plain nb b.length (bys b), i64 0]), (4, some (z3i (z4fb L c00) ++ [st [], .sl .plain none 0 []])), (15, some [.sl .plain (some false) t.length (bys t), i64 0]), (22, some [.bp 4 0, .bp 4 1, .bp 4 2, .bp 4 3, .bp 4 4, .bp 4 5])]⟩
theorem hp4 {i : Nat} (h : i < 6) : hdA (([.bp 4 0, .bp 4 1, .bp 4 2, .bp 4 3, .bp 4 4, .bp 4 5] : List z2a).drop i) = .bp 4 i := by
 match i, h with
 | 0, _ | 1, _ | 2, _ | 3, _ | 4, _ | 5, _ => rfl
theorem gp4 {i : Nat} (h : i < 6) : ∀ h' : i < ([.bp 4 0, .bp 4 1, .bp 4 2, .bp 4 3, .bp 4 4, .bp 4 5] : List z2a).length, ([.bp 4 0, .bp 4 1, .bp 4 2, .bp 4 3, .bp 4 4, .bp 4 5] : List z2a)[i] = .bp 4 i := by
 intro h'
 match i, h with
 | 0, _ | 1, _ | 2, _ | 3, _ | 4, _ | 5, _ => rfl
set_option maxHeartbeats 4000000 in
theorem z65b (E : Env) (h316 : E.M 316 = z0ia) (h323 : E.M 323 = z6v) (h324 : E.M 324 = z4V) (h326 : E.M 326 = z5V) : ∀ ds p, z6ka.pre ds → ds.length = z6d.n ∧ awp E z6d.body (z21a z6d.res z6ka p ds) (z9ka z6ka.bx p ds) := by
 rintro _ p ⟨nb, b, rfl⟩
 obtain ⟨s, b1, u1, u2, c, hs, hc, hsl, g1, g2, g3, g4⟩ := z89a
 have hpost : z21a z6d.res z6ka p [.ep (rdE nb b), st (z3P dEx)] = z21a z6d.res ⟨[0], [], fun _ => True, fun _ => .agg (z2k c none), fun _ _ => rdE nb b⟩ p [.ep (rdE nb b), st s] := by
  unfold z21a
  simp only [z6ka, hs, hc, rdE, qN_e, qB_e]
 rw [hs] at *
 rw [hpost, show z6ka.bx = [0] from rfl]
 simp (maxSteps := 1000000) (disch := first | omega | (simp; done) | (simp; omega)) [z7a, z1a, z0a, z6d, z4B, rdE]
 refine z3a fun Q0 hQ0 => ?_
 simp (maxSteps := 1000000) (disch := first | omega | (simp; done) | (simp; omega)) [z7a, z1a, z0a, z7B]
 refine z3d (fun q : Nat × List Int × List UInt8 => z2rc nb b (p 0) q.1 q.2.1 q.2.2) (fun q => 6 - q.1) (fun q => q.1 ≤ 6 ∧ q.2.1.length = q.1 ∧ q.2.2.length ≤ 100000000 ∧ (six c, b1, 0) = (q.2.1 ++ (z5ta (6 - q.1) q.2.2).1, (z5ta (6 - q.1) q.2.2).2)) (0, [], s) (by simp [z2rc, z4fb, six, z3i, c00]) ⟨Nat.zero_le _, rfl, hsl, by rw [← g1]; rfl⟩ fun q hq => ?_
 obtain ⟨i, L, t⟩ := q
 obtain ⟨hi, hl, ht, hE⟩ := hq
 simp only at hi hl ht hE
 refine z3a fun Q1 hQ1 => ?_
 have hlen := z8Kb (c := c00) (show L.length ≤ 6 by omega)
 by_cases h6 : i < 6
 ·obtain ⟨k, hk⟩ : ∃ k, 6 - i = k + 1 := ⟨5 - i, by omega⟩
  rw [hk] at hE
  obtain ⟨e1, e2, e3⟩ := z0na t
  by_cases he : (z0l t).2.2 = 0
  ·rw [z5Pb he] at hE
   have hsp : splice (z3i (z4fb L c00) ++ [st [], .sl .plain none 0 []]) i [i64 (z0l t).1] = z3i (z4fb (L ++ [(z0l t).1]) c00) ++ [st [], .sl .plain none 0 []] := by
    rw [z98 (by simp [hlen]; omega), z2Ya (by omega), ← hl, z4wb (by omega)]
   simp (maxSteps := 1000000) (disch := first | omega | (simp; done) | (simp; omega)) [z7a, z1a, z0a, z2q, z1q, z2B, h6, hp4 h6, gp4 h6, kT, kF, dT, dF, he, z2rc]
   simp (maxSteps := 1000000) (disch := first | omega | (simp; done) | (simp; omega)) [z7a, z1a, z0a, z8C, h326, z4Pa, z9Ea, z0Sa, he, kT, kF, dT, dF, z0Qa, hsp, hQ1]
   refine ⟨by omega, by omega, by simp [z0A], by omega, i + 1, by omega, L ++ [(z0l t).1], t.drop (z0l t).2.1, ⟨by omega, by simp [hl], by simp; omega, ?_⟩, ?_⟩
   ·have e4 := congrArg Prod.fst hE
    have e5 := congrArg Prod.snd hE
    rw [show 6 - (i + 1) = k by omega]
    simp only at e4 e5
    exact ⟨by rw [e4]; simp, e5⟩
   ·simp [z2rc]
  ·rw [z9Fc he] at hE
   simp at hE
   exact absurd hE.2.2.symm he
 ·obtain rfl : i = 6 := by omega
  have e0 : six c = L ∧ b1 = t := by simpa [z5ta] using hE
  obtain ⟨e0, rfl⟩ := e0
  have hx : z4fb L c00 = six c := by rw [← e0]; exact z1yc rfl
  clear hE hlen e0
  obtain ⟨a0, a1, a2, a3, a4, a5, dt, ls⟩ := c
  simp (maxSteps := 1000000) (disch := first | omega | (simp; done) | (simp; omega)) [z7a, z1a, z0a, z2q, z1q, h6, kT, kF, dT, dF, z2rc, hQ1, hQ0, hx, six, z94c]
  simp (maxSteps := 1000000) (disch := first | omega | (simp; done) | (simp; omega)) [z7a, z1a, z0a, z5B, z3C, h324, z0ya, z1Ga, z9Ua, g2, kT, kF, dT, dF]
  simp (maxSteps := 1000000) (disch := first | omega | (simp; done) | (simp; omega)) [z7a, z1a, z0a, z8B, h323, z35, z58, z7fa, g3, g4, kT, kF, dT, dF]
  simp (maxSteps := 1000000) (disch := first | omega | (simp; done) | (simp; omega)) [z7a, z1a, z0a, z2C, z6A, h316, z8Sa, z24, z0Wa, kT, kF, dT, dF, z2k, rdE]
  exact ⟨⟨by simp [z0A], of_eq_true (z0ya (by omega) (by rw [g2]) rfl)⟩, ⟨by simp [z0A], of_eq_true (z35 (by simp; omega) (by rw [g3]) (by simp))⟩, by rw [z0f rfl]; simp, by rw [z0f rfl]; rfl⟩
end Go.Abs
end
