/- Lemmas: an abstract interpreter, and what the functions compute. -/
import Derived.Test.YtkccmbjmlpnejaaDoorC
import Derived.Test.YtkccmbjmlpnejaaDoorT
import Derived.Test.YtkccmbjmlpnejaaDoorN
import Derived.Test.YtkccmbjmlpnejaaDoorH
import Derived.Test.YtkccmbjmlpnejaaDoorI
import Derived.Test.YtkccmbjmlpnejaaDoorL
set_option linter.unusedSimpArgs false
set_option linter.unusedVariables false
set_option linter.unusedSectionVars false
section
namespace Go.Abs
set_option maxRecDepth 100000
def z85 : z4a :=
 .cond (.s 20) (
 .region [2, 4] [.norm [2, 13]] [
 ⟨some 21, none, .mv false (.s 5)⟩,
 ⟨some 22, none, .idxSl 1 (.s 21) (.c (i64 0))⟩,
 ⟨some 23, none, .load none none false (.s 22)⟩,
 ⟨some 24, none, .mv false (.s 5)⟩,
 ⟨some 25, none, .idxSl 1 (.s 24) (.c (i64 1))⟩,
 ⟨some 26, none, .load none none false (.s 25)⟩,
 ⟨some 27, none, .mv false (.s 5)⟩,
 ⟨some 28, none, .idxSl 1 (.s 27) (.c (i64 2))⟩,
 ⟨some 29, none, .load none none false (.s 28)⟩,
 ⟨some 30, none, .mv false (.s 5)⟩,
 ⟨some 31, none, .idxSl 1 (.s 30) (.c (i64 3))⟩,
 ⟨some 32, none, .load none none false (.s 31)⟩,
 ⟨some 33, none, .build (List.replicate 10 (i64 0) ++ [st []] ++ [.sl .plain none 0 []] ++ bys (z9c 16) ++ [.sl .plain (some true) 0 []] ++ [.sl .plain none 0 []]) [(0, 1, (.s 23)), (1, 1, (.s 26)), (2, 1, (.s 29)), (3, 1, (.s 32))]⟩,
 ⟨none, none, .store (some 30) 2 false (.s 2) (.s 33)⟩]) (
 .ghost (.keep [2, 4]) .skip)
def z0P : z4a :=
 .cond (.s 53) (
 .ghost (.keep [2, 4, 7, 8]) .skip) (
 .ghost (.keep [2, 4]) (.exit 0))
def z53 : z4a :=
 .cond (.s 70) (
 .region [2, 4, 7, 8] [.norm [2, 13]] [
 ⟨some 71, none, .fieldAddr 28 (.s 2)⟩,
 ⟨some 72, none, .load none (some 2) true (.s 71)⟩,
 ⟨some 73, none, .mv false (.s 9)⟩,
 ⟨some 74, none, .idxSl 1 (.s 73) (.c (i64 0))⟩,
 ⟨some 75, none, .load none none false (.s 74)⟩,
 ⟨some 76, none, .mv false (.s 9)⟩,
 ⟨some 77, none, .idxSl 1 (.s 76) (.c (i64 1))⟩,
 ⟨some 78, none, .load none none false (.s 77)⟩,
 ⟨some 79, none, .mv false (.s 9)⟩,
 ⟨some 80, none, .idxSl 1 (.s 79) (.c (i64 2))⟩,
 ⟨some 81, none, .load none none false (.s 80)⟩,
 ⟨some 82, none, .mv false (.s 9)⟩,
 ⟨some 83, none, .idxSl 1 (.s 82) (.c (i64 3))⟩,
 ⟨some 84, none, .load none none false (.s 83)⟩,
 ⟨some 85, none, .mv false (.s 9)⟩,
 ⟨some 86, none, .idxSl 1 (.s 85) (.c (i64 4))⟩,
 ⟨some 87, none, .load none none false (.s 86)⟩,
 ⟨some 88, none, .mv false (.s 9)⟩,
 ⟨some 89, none, .idxSl 1 (.s 88) (.c (i64 5))⟩,
 ⟨some 90, none, .load none none false (.s 89)⟩,
 ⟨some 91, none, .mv false (.s 9)⟩,
 ⟨some 92, none, .idxSl 1 (.s 91) (.c (i64 6))⟩,
 ⟨some 93, none, .load none none false (.s 92)⟩,
 ⟨some 94, none, .mv false (.s 9)⟩,
 ⟨some 95, none, .idxSl 1 (.s 94) (.c (i64 7))⟩,
 ⟨some 96, none, .load none none false (.s 95)⟩,
 ⟨some 97, none, .bin .eql (.s 96) (.c (i64 1))⟩,
 ⟨some 98, none, .mv false (.s 4)⟩,
 ⟨some 99, none, .callm 325 none [(.s 98), (.c (.fn 320 [] []))] [(0, 13)] []⟩,
 ⟨some 100, none, .build (List.replicate 7 (i64 0) ++ [bo false] ++ bys (z9c 16)) [(0, 1, (.s 75)), (1, 1, (.s 78)), (2, 1, (.s 81)), (3, 1, (.s 84)), (4, 1, (.s 87)), (5, 1, (.s 90)), (6, 1, (.s 93)), (7, 1, (.s 97)), (8, 16, (.s 99))]⟩,
 ⟨some 101, none, .buildSl 24 1 [i64 0, i64 0, i64 0, i64 0, i64 0, i64 0, i64 0, bo false, u8 0, u8 0, u8 0, u8 0, u8 0, u8 0, u8 0, u8 0, u8 0, u8 0, u8 0, u8 0, u8 0, u8 0, u8 0, u8 0] [(0, 24, (.s 100))]⟩,
 ⟨some 102, none, .append 24 80 false none none 72 (.s 101)⟩,
 ⟨some 103, none, .fieldAddr 28 (.s 2)⟩,
 ⟨none, none, .store none 2 false (.s 103) (.s 102)⟩]) (
 .ghost (.keep [2, 4, 7, 8]) .skip)
def z33 : z4a :=
 .seq (
 .region [2, 4, 7, 8, 9, 70] [.norm [2, 13], .reB 2 28 (some 24), .norm [2, 13]] [
 ⟨some 58, none, .mv false (.s 4)⟩,
 ⟨some 59, none, .mv false (.s 9)⟩,
 ⟨some 60, none, .len false (.s 59)⟩,
 ⟨some 61, none, .bin .eql (.s 60) (.c (i64 8))⟩,
 ⟨some 62, none, .callm 316 none [(.s 58), (.s 61), (.c (i64 6))] [(0, 13)] []⟩,
 ⟨some 63, none, .mv false (.s 62)⟩,
 ⟨some 64, (some (63, true)), .mv false (.s 4)⟩,
 ⟨some 65, (some (63, true)), .mv false (.s 9)⟩,
 ⟨some 66, (some (63, true)), .idxSl 1 (.s 65) (.c (i64 7))⟩,
 ⟨some 67, (some (63, true)), .load none none false (.s 66)⟩,
 ⟨some 68, (some (63, true)), .call 295 [(.s 67), (.c (i64 0)), (.c (i64 1))] []⟩,
 ⟨some 69, (some (63, true)), .callm 316 none [(.s 64), (.s 68), (.c (i64 6))] [(0, 13)] []⟩,
 ⟨some 70, none, .pick (.s 63) (.s 69) (.c (bo false))⟩]) (
 z53)
def z51 : z4a :=
 .seq (
 .block 1 (
 .seq (
 .region [2, 4, 7, 8, 9] [.norm [2, 13]] [
 ⟨some 56, none, .mv false (.s 4)⟩,
 ⟨some 57, none, .callm 323 none [(.s 56), (.c (.fn 52 [] []))] [(0, 13)] []⟩,
 ⟨some 9, none, .mv true (.s 57)⟩]) (
 z33))) (
 .region [2, 4, 7, 8] [] [
 ⟨some 54, none, .mv false (.s 8)⟩,
 ⟨some 55, none, .bin .add (.s 54) (.c (i64 1))⟩,
 ⟨some 8, none, .mv false (.s 55)⟩])
def z1S : z4a :=
 .seq (
 .seq (
 .region [2, 4, 7, 8, 53] [.norm [2, 13]] [
 ⟨some 45, none, .mv false (.s 4)⟩,
 ⟨some 46, none, .mv false (.s 7)⟩,
 ⟨some 47, none, .call 295 [(.s 46), (.c (i64 0)), (.c (i64 4096))] []⟩,
 ⟨some 48, none, .callm 316 none [(.s 45), (.s 47), (.c (i64 6))] [(0, 13)] []⟩,
 ⟨some 49, none, .mv false (.s 48)⟩,
 ⟨some 50, (some (49, true)), .mv false (.s 8)⟩,
 ⟨some 51, (some (49, true)), .mv false (.s 7)⟩,
 ⟨some 52, (some (49, true)), .bin .lss (.s 50) (.s 51)⟩,
 ⟨some 53, none, .pick (.s 49) (.s 52) (.c (bo false))⟩]) (
 z0P)) (
 z51)
def z39 : z4a :=
 .block 0 (
 .loop z1S)
def z34 : z4a :=
 .cond (.s 119) (
 .seq (
 .region [2, 3] [.norm [2, 13]] [
 ⟨some 120, none, .build (List.replicate 10 (i64 0) ++ [st []] ++ [.sl .plain none 0 []] ++ bys (z9c 16) ++ [.sl .plain none 0 []] ++ [.sl .plain none 0 []]) []⟩,
 ⟨some 121, none, .mv false (.s 4)⟩,
 ⟨some 122, none, .nilchk (.s 121)⟩,
 ⟨some 123, none, .fieldAddr 1 (.s 122)⟩,
 ⟨some 124, none, .load none (some 13) false (.s 123)⟩,
 ⟨none, none, .store (some 30) 2 false (.s 2) (.s 120)⟩,
 ⟨some 3, none, .mv false (.s 124)⟩]) (
 .ret)) (
 .ghost (.keep [2]) .skip)
def z63 : z4a :=
 .seq (
 .region [2, 3] [.norm [2, 13]] [
 ⟨some 125, none, .load (some 30) (some 2) false (.s 2)⟩,
 ⟨none, none, .store (some 30) 2 false (.s 2) (.s 125)⟩,
 ⟨some 3, none, .mv false (.c (i64 0))⟩]) (
 .ret)
def z13 : z4a :=
 .seq (
 .seq (
 .region [2, 4, 119] [.norm [2, 13]] [
 ⟨some 107, none, .mv false (.s 4)⟩,
 ⟨some 108, none, .mv false (.s 4)⟩,
 ⟨some 109, none, .nilchk (.s 108)⟩,
 ⟨some 110, none, .fieldAddr 0 (.s 109)⟩,
 ⟨some 111, none, .load none (some 13) false (.s 110)⟩,
 ⟨some 112, none, .len false (.s 111)⟩,
 ⟨some 113, none, .bin .eql (.s 112) (.c (i64 0))⟩,
 ⟨some 114, none, .mv false (.s 113)⟩,
 ⟨some 115, (some (114, true)), .load (some 30) (some 2) false (.s 2)⟩,
 ⟨some 116, (some (114, true)), .call 300 [(.s 115)] []⟩,
 ⟨some 117, none, .pick (.s 114) (.s 116) (.c (bo false))⟩,
 ⟨some 118, none, .callm 316 none [(.s 107), (.s 117), (.c (i64 6))] [(0, 13)] []⟩,
 ⟨some 119, none, .un .not (.s 118)⟩]) (
 z34)) (
 z63)
def z73 : z4a :=
 .seq (
 .region [2, 4] [.norm [2, 13]] [
 ⟨some 104, none, .mv false (.s 4)⟩,
 ⟨some 105, none, .callm 323 none [(.s 104), (.c (.fn 52 [] []))] [(0, 13)] []⟩,
 ⟨some 106, none, .fieldAddr 29 (.s 2)⟩,
 ⟨none, none, .store none 2 true (.s 106) (.s 105)⟩]) (
 z13)
def z76 : z4a :=
 .seq (
 .seq (
 .region [2, 4, 7, 8] [] [
 ⟨some 8, none, .mv false (.c (i64 0))⟩]) (
 z39)) (
 z73)
def z57 : z4a :=
 .seq (
 .region [2, 4, 7] [.norm [2, 13]] [
 ⟨some 43, none, .mv false (.s 4)⟩,
 ⟨some 44, none, .callm 326 none [(.s 43), (.c (.fn 45 [] []))] [(0, 13)] []⟩,
 ⟨some 7, none, .mv false (.s 44)⟩]) (
 z76)
def z86 : z4a :=
 .seq (
 .region [2, 4] [.norm [2, 13]] [
 ⟨some 40, none, .mv false (.s 4)⟩,
 ⟨some 41, none, .callm 325 none [(.s 40), (.c (.fn 320 [] []))] [(0, 13)] []⟩,
 ⟨some 42, none, .fieldAddr 12 (.s 2)⟩,
 ⟨none, none, .store (some 16) 2 false (.s 42) (.s 41)⟩]) (
 z57)
def z17 : z4a :=
 .seq (
 .region [2, 4] [.norm [2, 13]] [
 ⟨some 36, none, .mv false (.s 4)⟩,
 ⟨some 37, none, .mv false (.s 6)⟩,
 ⟨some 38, none, .callm 318 none [(.s 36), (.s 37)] [(0, 13)] []⟩,
 ⟨some 39, none, .fieldAddr 4 (.s 2)⟩,
 ⟨none, none, .store (some 8) 2 false (.s 39) (.s 38)⟩]) (
 z86)
def z16 : z4a :=
 .seq (
 .region [2, 4, 6] [.norm [2, 13]] [
 ⟨some 34, none, .mv false (.s 4)⟩,
 ⟨some 35, none, .callm 324 none [(.s 34), (.c (.fn 48 [] []))] [(0, 13)] []⟩,
 ⟨some 6, none, .mv false (.s 35)⟩]) (
 z17)
def z26 : z4a :=
 .seq (
 .seq (
 .region [2, 4, 5, 20] [.norm [2, 13]] [
 ⟨some 16, none, .mv false (.s 4)⟩,
 ⟨some 17, none, .mv false (.s 5)⟩,
 ⟨some 18, none, .len false (.s 17)⟩,
 ⟨some 19, none, .bin .eql (.s 18) (.c (i64 4))⟩,
 ⟨some 20, none, .callm 316 none [(.s 16), (.s 19), (.c (i64 6))] [(0, 13)] []⟩]) (
 z85)) (
 z16)
def z99 : z4a :=
 .seq (
 .region [2, 4, 5] [.norm [2, 13]] [
 ⟨some 14, none, .mv false (.s 4)⟩,
 ⟨some 15, none, .callm 323 none [(.s 14), (.c (.fn 52 [] []))] [(0, 13)] []⟩,
 ⟨some 5, none, .mv true (.s 15)⟩]) (
 z26)
def z58 : z4a :=
 .seq (
 .region [2, 4] [.norm [2, 13]] [
 ⟨some 10, none, .mv false (.s 0)⟩,
 ⟨some 11, none, .toBytes (.s 10)⟩,
 ⟨some 12, none, .build [.sl .plain none 0 [], i64 0] [(0, 1, (.s 11))]⟩,
 ⟨some 13, none, .box 13 (some 2) false (.s 12)⟩,
 ⟨some 4, none, .mv false (.s 13)⟩]) (
 z99)
def z3p : z2r :=
 { n := 1, wr := [], res := [.cell 2 (some 30) 2, .t 3], body :=
 .seq (
 .region [2] [.norm [2]] [
 ⟨some 2, none, .alloc 2 (List.replicate 10 (i64 0) ++ [st []] ++ [.sl .plain none 0 []] ++ bys (z9c 16) ++ [.sl (.own 24) none 0 []] ++ [.sl (.own 1) none 0 []])⟩,
 ⟨some 3, none, .mv false (.c (i64 0))⟩]) (
 z58) }

def z8y : z4a :=
 .cond (.s 12) (
 .seq (
 .region [0, 4] [] [
 ⟨some 13, none, .mv true (.s 4)⟩,
 ⟨some 4, none, .mv true (.s 13)⟩]) (
 .ret)) (
 .ghost (.keep [0, 1, 4]) .skip)
def z9W : z4a :=
 .seq (
 .region [0, 4] [] [
 ⟨some 30, none, .mv true (.s 4)⟩,
 ⟨some 4, none, .mv true (.s 30)⟩]) (
 .ret)
def z3y : z4a :=
 .cond (.s 25) (
 .seq (
 .region [0, 4] [.norm [0]] [
 ⟨some 26, none, .mv false (.s 0)⟩,
 ⟨some 27, none, .mv false (.s 7)⟩,
 ⟨some 28, none, .nilchk (.s 26)⟩,
 ⟨some 29, none, .fieldAddr 1 (.s 28)⟩,
 ⟨none, none, .store none 0 false (.s 29) (.s 27)⟩]) (
 z9W)) (
 .ghost (.keep [0, 5, 6]) .skip)
def z2y : z4a :=
 .seq (
 .region [0, 4] [] [
 ⟨some 40, none, .mv true (.s 5)⟩,
 ⟨some 4, none, .mv true (.s 40)⟩]) (
 .ret)
def z6y : z4a :=
 .seq (
 .region [0, 5] [.norm [0]] [
 ⟨some 31, none, .mv false (.s 0)⟩,
 ⟨some 32, none, .mv false (.s 0)⟩,
 ⟨some 33, none, .nilchk (.s 32)⟩,
 ⟨some 34, none, .fieldAddr 0 (.s 33)⟩,
 ⟨some 35, none, .load none (some 0) false (.s 34)⟩,
 ⟨some 36, none, .mv false (.s 6)⟩,
 ⟨some 37, none, .slSl 1 (.s 35) (some (.s 36)) none none⟩,
 ⟨some 38, none, .nilchk (.s 31)⟩,
 ⟨some 39, none, .fieldAddr 0 (.s 38)⟩,
 ⟨none, none, .store none 0 true (.s 39) (.s 37)⟩]) (
 z2y)
def z6x : z4a :=
 .seq (
 .seq (
 .region [0, 4, 5, 6, 7, 25] [] [
 ⟨some 24, none, .mv false (.s 7)⟩,
 ⟨some 25, none, .bin .neq (.s 24) (.c (i64 0))⟩]) (
 z3y)) (
 z6y)
def z5y : z4a :=
 .seq (
 .region [0, 4, 5, 6, 7] [.norm [0]] [
 ⟨some 15, none, .mv false (.s 1)⟩,
 ⟨some 16, none, .mv false (.s 0)⟩,
 ⟨some 17, none, .nilchk (.s 16)⟩,
 ⟨some 18, none, .fieldAddr 0 (.s 17)⟩,
 ⟨some 19, none, .load none (some 0) false (.s 18)⟩,
 ⟨some 20, none, .callv 52 (.s 15) [(.s 19)] []⟩,
 ⟨some 14, none, .mv false (.s 20)⟩,
 ⟨some 21, none, .extract 0 (.s 14)⟩,
 ⟨some 22, none, .extract 1 (.s 14)⟩,
 ⟨some 23, none, .extract 2 (.s 14)⟩,
 ⟨some 5, none, .mv true (.s 21)⟩,
 ⟨some 6, none, .mv false (.s 22)⟩,
 ⟨some 7, none, .mv false (.s 23)⟩]) (
 z6x)
def z1y : z4a :=
 .seq (
 .seq (
 .region [0, 1, 4, 12] [.norm [0]] [
 ⟨some 8, none, .mv false (.s 0)⟩,
 ⟨some 9, none, .nilchk (.s 8)⟩,
 ⟨some 10, none, .fieldAddr 1 (.s 9)⟩,
 ⟨some 11, none, .load none (some 0) false (.s 10)⟩,
 ⟨some 12, none, .bin .neq (.s 11) (.c (i64 0))⟩]) (
 z8y)) (
 z5y)
def z3f : z2r :=
 { n := 2, wr := [], res := [.t 4], body :=
 .seq (
 .region [0, 1, 4] [] [
 ⟨some 4, none, .mv true (.c (.sl (.own 1) none 0 []))⟩]) (
 z1y) }

def z8O : z4a :=
 .cond (.s 15) (
 .region [0] [.norm [0]] [
 ⟨some 16, none, .mv false (.s 0)⟩,
 ⟨some 17, none, .mv false (.s 2)⟩,
 ⟨some 18, none, .nilchk (.s 16)⟩,
 ⟨some 19, none, .fieldAddr 1 (.s 18)⟩,
 ⟨none, none, .store none 0 false (.s 19) (.s 17)⟩]) (
 .ghost (.keep [0]) .skip)
def z9L : z4a :=
 .seq (
 .region [0, 6] [.norm [0]] [
 ⟨some 20, none, .mv false (.s 0)⟩,
 ⟨some 21, none, .nilchk (.s 20)⟩,
 ⟨some 22, none, .fieldAddr 1 (.s 21)⟩,
 ⟨some 23, none, .load none (some 0) false (.s 22)⟩,
 ⟨some 24, none, .bin .eql (.s 23) (.c (i64 0))⟩,
 ⟨some 6, none, .mv false (.s 24)⟩]) (
 .ret)
def z2N : z4a :=
 .seq (
 .seq (
 .region [0, 2, 15] [.norm [0]] [
 ⟨some 7, none, .mv false (.s 0)⟩,
 ⟨some 8, none, .nilchk (.s 7)⟩,
 ⟨some 9, none, .fieldAddr 1 (.s 8)⟩,
 ⟨some 10, none, .load none (some 0) false (.s 9)⟩,
 ⟨some 11, none, .bin .eql (.s 10) (.c (i64 0))⟩,
 ⟨some 12, none, .mv false (.s 11)⟩,
 ⟨some 13, (some (12, true)), .mv false (.s 1)⟩,
 ⟨some 14, (some (12, true)), .un .not (.s 13)⟩,
 ⟨some 15, none, .pick (.s 12) (.s 14) (.c (bo false))⟩]) (
 z8O)) (
 z9L)
def z2j : z2r :=
 { n := 3, wr := [], res := [.t 6], body :=
 .seq (
 .region [0, 1, 2] [] [
 ⟨some 6, none, .mv false (.c (bo false))⟩]) (
 z2N) }

def z7w : z4a :=
 .cond (.s 12) (
 .seq (
 .region [0, 4] [] [
 ⟨some 13, none, .mv false (.s 4)⟩,
 ⟨some 4, none, .mv false (.s 13)⟩]) (
 .ret)) (
 .ghost (.keep [0, 1, 4]) .skip)
def z1W : z4a :=
 .seq (
 .region [0, 4] [] [
 ⟨some 30, none, .mv false (.s 4)⟩,
 ⟨some 4, none, .mv false (.s 30)⟩]) (
 .ret)
def z8w : z4a :=
 .cond (.s 25) (
 .seq (
 .region [0, 4] [.norm [0]] [
 ⟨some 26, none, .mv false (.s 0)⟩,
 ⟨some 27, none, .mv false (.s 7)⟩,
 ⟨some 28, none, .nilchk (.s 26)⟩,
 ⟨some 29, none, .fieldAddr 1 (.s 28)⟩,
 ⟨none, none, .store none 0 false (.s 29) (.s 27)⟩]) (
 z1W)) (
 .ghost (.keep [0, 5, 6]) .skip)
def z8v : z4a :=
 .seq (
 .region [0, 4] [] [
 ⟨some 40, none, .mv false (.s 5)⟩,
 ⟨some 4, none, .mv false (.s 40)⟩]) (
 .ret)
def z2w : z4a :=
 .seq (
 .region [0, 5] [.norm [0]] [
 ⟨some 31, none, .mv false (.s 0)⟩,
 ⟨some 32, none, .mv false (.s 0)⟩,
 ⟨some 33, none, .nilchk (.s 32)⟩,
 ⟨some 34, none, .fieldAddr 0 (.s 33)⟩,
 ⟨some 35, none, .load none (some 0) false (.s 34)⟩,
 ⟨some 36, none, .mv false (.s 6)⟩,
 ⟨some 37, none, .slSl 1 (.s 35) (some (.s 36)) none none⟩,
 ⟨some 38, none, .nilchk (.s 31)⟩,
 ⟨some 39, none, .fieldAddr 0 (.s 38)⟩,
 ⟨none, none, .store none 0 true (.s 39) (.s 37)⟩]) (
 z8v)
def z4w : z4a :=
 .seq (
 .seq (
 .region [0, 4, 5, 6, 7, 25] [] [
 ⟨some 24, none, .mv false (.s 7)⟩,
 ⟨some 25, none, .bin .neq (.s 24) (.c (i64 0))⟩]) (
 z8w)) (
 z2w)
def z0w : z4a :=
 .seq (
 .region [0, 4, 5, 6, 7] [.norm [0]] [
 ⟨some 15, none, .mv false (.s 1)⟩,
 ⟨some 16, none, .mv false (.s 0)⟩,
 ⟨some 17, none, .nilchk (.s 16)⟩,
 ⟨some 18, none, .fieldAddr 0 (.s 17)⟩,
 ⟨some 19, none, .load none (some 0) false (.s 18)⟩,
 ⟨some 20, none, .callv 48 (.s 15) [(.s 19)] []⟩,
 ⟨some 14, none, .mv false (.s 20)⟩,
 ⟨some 21, none, .extract 0 (.s 14)⟩,
 ⟨some 22, none, .extract 1 (.s 14)⟩,
 ⟨some 23, none, .extract 2 (.s 14)⟩,
 ⟨some 5, none, .mv false (.s 21)⟩,
 ⟨some 6, none, .mv false (.s 22)⟩,
 ⟨some 7, none, .mv false (.s 23)⟩]) (
 z4w)
def z9v : z4a :=
 .seq (
 .seq (
 .region [0, 1, 4, 12] [.norm [0]] [
 ⟨some 8, none, .mv false (.s 0)⟩,
 ⟨some 9, none, .nilchk (.s 8)⟩,
 ⟨some 10, none, .fieldAddr 1 (.s 9)⟩,
 ⟨some 11, none, .load none (some 0) false (.s 10)⟩,
 ⟨some 12, none, .bin .neq (.s 11) (.c (i64 0))⟩]) (
 z7w)) (
 z0w)
def z8e : z2r :=
 { n := 2, wr := [], res := [.t 4], body :=
 .seq (
 .region [0, 1, 4] [] [
 ⟨some 4, none, .mv false (.c (st []))⟩]) (
 z9v) }

def z4D : z4a :=
 .region [0, 4, 5, 22, 23, 24] [.norm [0, 4, 15, 22]] [
 ⟨some 28, none, .mv false (.s 7)⟩,
 ⟨some 29, none, .mv false (.s 5)⟩,
 ⟨some 30, none, .callm 326 none [(.s 29), (.c (.fn 45 [] []))] [(0, 15)] []⟩,
 ⟨some 31, none, .nilchk (.s 28)⟩,
 ⟨none, none, .store none 4 false (.s 31) (.s 30)⟩]
def z7D : z4a :=
 .seq (
 .block 1 (
 .seq (
 .region [0, 4, 5, 7, 22, 23, 24] [.norm [0, 4, 15, 22]] [
 ⟨some 26, none, .idxSl 1 (.s 22) (.s 24)⟩,
 ⟨some 27, none, .load none (some 22) false (.s 26)⟩,
 ⟨some 7, none, .mv false (.s 27)⟩]) (
 z4D))) (
 .region [0, 4, 5, 22, 23, 24] [] [
 ⟨some 32, none, .bin .add (.s 24) (.c (i64 1))⟩,
 ⟨some 24, none, .mv false (.s 32)⟩])
def z4r : z4a :=
 .seq (
 .cond (.s 25) (
 .ghost (.keep [0, 4, 5, 22, 23, 24]) .skip) (
 .ghost (.keep [0, 4, 5]) (.exit 0))) (
 z7D)
def z5r : z4a :=
 .seq (
 .region [0, 4, 5, 22, 23, 24, 25] [] [
 ⟨some 25, none, .bin .lss (.s 24) (.s 23)⟩]) (
 z4r)
def z64 : z4a :=
 .block 0 (
 .loop z5r)
def z0C : z4a :=
 .seq (
 .region [0, 4] [.norm [0, 4, 15, 22]] [
 ⟨some 54, none, .load (some 8) (some 4) false (.s 4)⟩,
 ⟨none, none, .store (some 8) 4 false (.s 4) (.s 54)⟩]) (
 .ret)
def z2D : z4a :=
 .seq (
 .region [0, 4] [.norm [0, 4, 15, 22]] [
 ⟨some 47, none, .mv false (.s 0)⟩,
 ⟨some 48, none, .mv false (.s 5)⟩,
 ⟨some 49, none, .nilchk (.s 48)⟩,
 ⟨some 50, none, .fieldAddr 1 (.s 49)⟩,
 ⟨some 51, none, .load none (some 15) false (.s 50)⟩,
 ⟨some 52, none, .nilchk (.s 47)⟩,
 ⟨some 53, none, .fieldAddr 1 (.s 52)⟩,
 ⟨none, none, .store none 0 false (.s 53) (.s 51)⟩]) (
 z0C)
def z1D : z4a :=
 .seq (
 .region [0, 4, 5] [.norm [0, 4, 15, 22]] [
 ⟨some 39, none, .mv false (.s 5)⟩,
 ⟨some 40, none, .mv false (.s 5)⟩,
 ⟨some 41, none, .nilchk (.s 40)⟩,
 ⟨some 42, none, .fieldAddr 0 (.s 41)⟩,
 ⟨some 43, none, .load none (some 15) false (.s 42)⟩,
 ⟨some 44, none, .len false (.s 43)⟩,
 ⟨some 45, none, .bin .eql (.s 44) (.c (i64 0))⟩,
 ⟨some 46, none, .callm 316 none [(.s 39), (.s 45), (.c (i64 6))] [(0, 15)] []⟩]) (
 z2D)
def z9E : z4a :=
 .seq (
 .region [0, 4, 5] [.norm [0, 4, 15, 22]] [
 ⟨some 36, none, .mv false (.s 5)⟩,
 ⟨some 37, none, .callm 323 none [(.s 36), (.c (.fn 52 [] []))] [(0, 15)] []⟩,
 ⟨some 38, none, .fieldAddr 7 (.s 4)⟩,
 ⟨none, none, .store none 4 true (.s 38) (.s 37)⟩]) (
 z1D)
def z9D : z4a :=
 .seq (
 .region [0, 4, 5] [.norm [0, 4, 15, 22]] [
 ⟨some 33, none, .mv false (.s 5)⟩,
 ⟨some 34, none, .callm 324 none [(.s 33), (.c (.fn 48 [] []))] [(0, 15)] []⟩,
 ⟨some 35, none, .fieldAddr 6 (.s 4)⟩,
 ⟨none, none, .store none 4 false (.s 35) (.s 34)⟩]) (
 z9E)
def z9C : z4a :=
 .seq (
 .seq (
 .region [0, 4, 5, 22, 23, 24] [.norm [0, 4, 15, 22]] [
 ⟨some 16, none, .fieldAddr 0 (.s 4)⟩,
 ⟨some 17, none, .fieldAddr 1 (.s 4)⟩,
 ⟨some 18, none, .fieldAddr 2 (.s 4)⟩,
 ⟨some 19, none, .fieldAddr 3 (.s 4)⟩,
 ⟨some 20, none, .fieldAddr 4 (.s 4)⟩,
 ⟨some 21, none, .fieldAddr 5 (.s 4)⟩,
 ⟨some 22, none, .buildBx 22 1 6 [.lit (.pointer none), .lit (.pointer none), .lit (.pointer none), .lit (.pointer none), .lit (.pointer none), .lit (.pointer none)] [(0, 1, (.s 16)), (1, 1, (.s 17)), (2, 1, (.s 18)), (3, 1, (.s 19)), (4, 1, (.s 20)), (5, 1, (.s 21))]⟩,
 ⟨some 23, none, .len false (.s 22)⟩,
 ⟨some 24, none, .mv false (.c (i64 0))⟩]) (
 z64)) (
 z9D)
def z8D : z4a :=
 .seq (
 .region [0, 4, 5] [.norm [0, 4, 15]] [
 ⟨some 8, none, .mv false (.s 1)⟩,
 ⟨some 9, none, .toBytes (.s 8)⟩,
 ⟨some 10, none, .mv false (.s 0)⟩,
 ⟨some 11, none, .nilchk (.s 10)⟩,
 ⟨some 12, none, .fieldAddr 1 (.s 11)⟩,
 ⟨some 13, none, .load none (some 0) false (.s 12)⟩,
 ⟨some 14, none, .build [.sl .plain none 0 [], i64 0] [(0, 1, (.s 9)), (1, 1, (.s 13))]⟩,
 ⟨some 15, none, .box 15 (some 2) false (.s 14)⟩,
 ⟨some 5, none, .mv false (.s 15)⟩]) (
 z9C)
def z2e : z2r :=
 { n := 2, wr := [], res := [.cell 4 (some 8) 4], body :=
 .seq (
 .region [0, 1, 4] [.norm [0, 4]] [
 ⟨some 4, none, .alloc 4 (List.replicate 6 (i64 0) ++ [st []] ++ [.sl .plain none 0 []])⟩]) (
 z8D) }

def z7y : z4a :=
 .cond (.s 12) (
 .seq (
 .region [0, 4] [.norm [0, 4]] [
 ⟨some 13, none, .load (some 16) (some 4) false (.s 4)⟩,
 ⟨none, none, .store (some 16) 4 false (.s 4) (.s 13)⟩]) (
 .ret)) (
 .ghost (.keep [0, 1, 4]) .skip)
def z1X : z4a :=
 .seq (
 .region [0, 4] [.norm [0, 4, 5]] [
 ⟨some 30, none, .load (some 16) (some 4) false (.s 4)⟩,
 ⟨none, none, .store (some 16) 4 false (.s 4) (.s 30)⟩]) (
 .ret)
def z7x : z4a :=
 .cond (.s 25) (
 .seq (
 .region [0, 4] [.norm [0, 4, 5]] [
 ⟨some 26, none, .mv false (.s 0)⟩,
 ⟨some 27, none, .mv false (.s 7)⟩,
 ⟨some 28, none, .nilchk (.s 26)⟩,
 ⟨some 29, none, .fieldAddr 1 (.s 28)⟩,
 ⟨none, none, .store none 0 false (.s 29) (.s 27)⟩]) (
 z1X)) (
 .ghost (.keep [0, 4, 5, 6]) .skip)
def z8x : z4a :=
 .seq (
 .region [0, 4] [.norm [0, 4, 5]] [
 ⟨some 40, none, .load (some 16) (some 5) false (.s 5)⟩,
 ⟨none, none, .store (some 16) 4 false (.s 4) (.s 40)⟩]) (
 .ret)
def z9y : z4a :=
 .seq (
 .region [0, 4, 5] [.norm [0, 4, 5]] [
 ⟨some 31, none, .mv false (.s 0)⟩,
 ⟨some 32, none, .mv false (.s 0)⟩,
 ⟨some 33, none, .nilchk (.s 32)⟩,
 ⟨some 34, none, .fieldAddr 0 (.s 33)⟩,
 ⟨some 35, none, .load none (some 0) false (.s 34)⟩,
 ⟨some 36, none, .mv false (.s 6)⟩,
 ⟨some 37, none, .slSl 1 (.s 35) (some (.s 36)) none none⟩,
 ⟨some 38, none, .nilchk (.s 31)⟩,
 ⟨some 39, none, .fieldAddr 0 (.s 38)⟩,
 ⟨none, none, .store none 0 true (.s 39) (.s 37)⟩]) (
 z8x)
def z4y : z4a :=
 .seq (
 .seq (
 .region [0, 4, 5, 6, 7, 25] [] [
 ⟨some 24, none, .mv false (.s 7)⟩,
 ⟨some 25, none, .bin .neq (.s 24) (.c (i64 0))⟩]) (
 z7x)) (
 z9y)
def z0y : z4a :=
 .seq (
 .region [0, 4, 5, 6, 7] [.norm [0, 4, 5]] [
 ⟨some 15, none, .mv false (.s 1)⟩,
 ⟨some 16, none, .mv false (.s 0)⟩,
 ⟨some 17, none, .nilchk (.s 16)⟩,
 ⟨some 18, none, .fieldAddr 0 (.s 17)⟩,
 ⟨some 19, none, .load none (some 0) false (.s 18)⟩,
 ⟨some 20, none, .callv 320 (.s 15) [(.s 19)] []⟩,
 ⟨some 14, none, .mv false (.s 20)⟩,
 ⟨some 21, none, .extract 0 (.s 14)⟩,
 ⟨some 22, none, .extract 1 (.s 14)⟩,
 ⟨some 23, none, .extract 2 (.s 14)⟩,
 ⟨some 5, none, .alloc 5 (bys (z9c 16))⟩,
 ⟨none, none, .store (some 16) 5 false (.s 5) (.s 21)⟩,
 ⟨some 6, none, .mv false (.s 22)⟩,
 ⟨some 7, none, .mv false (.s 23)⟩]) (
 z4y)
def z0z : z4a :=
 .seq (
 .seq (
 .region [0, 1, 4, 12] [.norm [0, 4]] [
 ⟨some 8, none, .mv false (.s 0)⟩,
 ⟨some 9, none, .nilchk (.s 8)⟩,
 ⟨some 10, none, .fieldAddr 1 (.s 9)⟩,
 ⟨some 11, none, .load none (some 0) false (.s 10)⟩,
 ⟨some 12, none, .bin .neq (.s 11) (.c (i64 0))⟩]) (
 z7y)) (
 z0y)
def z4f : z2r :=
 { n := 2, wr := [], res := [.cell 4 (some 16) 4], body :=
 .seq (
 .region [0, 1, 4] [.norm [0, 4]] [
 ⟨some 4, none, .alloc 4 (bys (z9c 16))⟩]) (
 z0z) }

def z56 : z4a :=
 .cond (.s 7) (
 .seq (
 .region [2, 3, 4] [.norm [2]] [
 ⟨some 8, none, .load (some 16) (some 2) false (.s 2)⟩,
 ⟨none, none, .store (some 16) 2 false (.s 2) (.s 8)⟩,
 ⟨some 3, none, .mv false (.c (i64 0))⟩,
 ⟨some 4, none, .mv false (.c (i64 5))⟩]) (
 .ret)) (
 .ghost (.keep [2]) .skip)
def z78 : z4a :=
 .seq (
 .region [2, 3, 4] [.norm [2]] [
 ⟨some 9, none, .mv false (.s 0)⟩,
 ⟨some 10, none, .slSl 1 (.s 9) none (some (.c (i64 16))) none⟩,
 ⟨some 11, none, .s2ap 16 (.s 10)⟩,
 ⟨some 12, none, .load (some 16) none false (.s 11)⟩,
 ⟨none, none, .store (some 16) 2 false (.s 2) (.s 12)⟩,
 ⟨some 3, none, .mv false (.c (i64 16))⟩,
 ⟨some 4, none, .mv false (.c (i64 0))⟩]) (
 .ret)
def z88 : z4a :=
 .seq (
 .seq (
 .region [2, 7] [] [
 ⟨some 5, none, .mv false (.s 0)⟩,
 ⟨some 6, none, .len false (.s 5)⟩,
 ⟨some 7, none, .bin .lss (.s 6) (.c (i64 16))⟩]) (
 z56)) (
 z78)
def z1p : z2r :=
 { n := 1, wr := [], res := [.cell 2 (some 16) 2, .t 3, .t 4], body :=
 .seq (
 .region [2] [.norm [2]] [
 ⟨some 2, none, .alloc 2 (bys (z9c 16))⟩,
 ⟨some 3, none, .mv false (.c (i64 0))⟩,
 ⟨some 4, none, .mv false (.c (i64 0))⟩]) (
 z88) }

def z7A : z4a :=
 .cond (.s 12) (
 .seq (
 .region [0, 4] [] [
 ⟨some 13, none, .mv false (.s 4)⟩,
 ⟨some 4, none, .mv false (.s 13)⟩]) (
 .ret)) (
 .ghost (.keep [0, 1, 4]) .skip)
def z4Y : z4a :=
 .seq (
 .region [0, 4] [] [
 ⟨some 30, none, .mv false (.s 4)⟩,
 ⟨some 4, none, .mv false (.s 30)⟩]) (
 .ret)
def z1A : z4a :=
 .cond (.s 25) (
 .seq (
 .region [0, 4] [.norm [0]] [
 ⟨some 26, none, .mv false (.s 0)⟩,
 ⟨some 27, none, .mv false (.s 7)⟩,
 ⟨some 28, none, .nilchk (.s 26)⟩,
 ⟨some 29, none, .fieldAddr 1 (.s 28)⟩,
 ⟨none, none, .store none 0 false (.s 29) (.s 27)⟩]) (
 z4Y)) (
 .ghost (.keep [0, 5, 6]) .skip)
def z4z : z4a :=
 .seq (
 .region [0, 4] [] [
 ⟨some 40, none, .mv false (.s 5)⟩,
 ⟨some 4, none, .mv false (.s 40)⟩]) (
 .ret)
def z6z : z4a :=
 .seq (
 .region [0, 5] [.norm [0]] [
 ⟨some 31, none, .mv false (.s 0)⟩,
 ⟨some 32, none, .mv false (.s 0)⟩,
 ⟨some 33, none, .nilchk (.s 32)⟩,
 ⟨some 34, none, .fieldAddr 0 (.s 33)⟩,
 ⟨some 35, none, .load none (some 0) false (.s 34)⟩,
 ⟨some 36, none, .mv false (.s 6)⟩,
 ⟨some 37, none, .slSl 1 (.s 35) (some (.s 36)) none none⟩,
 ⟨some 38, none, .nilchk (.s 31)⟩,
 ⟨some 39, none, .fieldAddr 0 (.s 38)⟩,
 ⟨none, none, .store none 0 true (.s 39) (.s 37)⟩]) (
 z4z)
def z9z : z4a :=
 .seq (
 .seq (
 .region [0, 4, 5, 6, 7, 25] [] [
 ⟨some 24, none, .mv false (.s 7)⟩,
 ⟨some 25, none, .bin .neq (.s 24) (.c (i64 0))⟩]) (
 z1A)) (
 z6z)
def z4A : z4a :=
 .seq (
 .region [0, 4, 5, 6, 7] [.norm [0]] [
 ⟨some 15, none, .mv false (.s 1)⟩,
 ⟨some 16, none, .mv false (.s 0)⟩,
 ⟨some 17, none, .nilchk (.s 16)⟩,
 ⟨some 18, none, .fieldAddr 0 (.s 17)⟩,
 ⟨some 19, none, .load none (some 0) false (.s 18)⟩,
 ⟨some 20, none, .callv 45 (.s 15) [(.s 19)] []⟩,
 ⟨some 14, none, .mv false (.s 20)⟩,
 ⟨some 21, none, .extract 0 (.s 14)⟩,
 ⟨some 22, none, .extract 1 (.s 14)⟩,
 ⟨some 23, none, .extract 2 (.s 14)⟩,
 ⟨some 5, none, .mv false (.s 21)⟩,
 ⟨some 6, none, .mv false (.s 22)⟩,
 ⟨some 7, none, .mv false (.s 23)⟩]) (
 z9z)
def z6A : z4a :=
 .seq (
 .seq (
 .region [0, 1, 4, 12] [.norm [0]] [
 ⟨some 8, none, .mv false (.s 0)⟩,
 ⟨some 9, none, .nilchk (.s 8)⟩,
 ⟨some 10, none, .fieldAddr 1 (.s 9)⟩,
 ⟨some 11, none, .load none (some 0) false (.s 10)⟩,
 ⟨some 12, none, .bin .neq (.s 11) (.c (i64 0))⟩]) (
 z7A)) (
 z4A)
def z1g : z2r :=
 { n := 2, wr := [], res := [.t 4], body :=
 .seq (
 .region [0, 1, 4] [] [
 ⟨some 4, none, .mv false (.c (i64 0))⟩]) (
 z6A) }

end Go.Abs
end

section
namespace Go.Abs
set_option maxRecDepth 100000
@[simp] theorem z9Qc (ids : List Nat) (f : Nat → List z2a) (n : Int) : z9ta ids f (i64 n) = i64 n := rfl
@[simp] theorem z44c (ids : List Nat) (f : Nat → List z2a) (b : Bool) : z9ta ids f (bo b) = bo b := rfl
@[simp] theorem z0bd (ids : List Nat) (f : Nat → List z2a) (s : List UInt8) : z9ta ids f (st s) = st s := rfl
theorem z0oa {l : List Int} (h : ∀ x ∈ l, z6k x) (hl : l.length ≤ 1000000000) : (z9q l).length ≤ 9 * l.length + 9 := by
 have e1 := z8l (n := (l.length : Int)) (by constructor <;> omega)
 have e2 := z8f h
 rw [z9q, List.length_append]
 omega
theorem z76b {m : z0f} (h : m.ok) : (z9Na m).length ≤ 97 := by
 have h1 := z0oa (z37a h) (by simp [z8sa])
 have h2 := h.2.2.2.2.2.2.2
 rw [z9Na, List.length_append, h2]
 simp only [z8sa, List.length_cons, List.length_nil] at h1 ⊢
 omega
theorem z4Ia : ∀ {l : List z0f}, z4d l → (l.flatMap z9Na).length ≤ 97 * l.length
 | [], _ => by simp
 | a :: l, h => by
  have h1 := z76b (h a (by simp))
  have h2 := z4Ia (l := l) fun m hm => h m (by simp [hm])
  rw [List.flatMap_cons, List.length_append, List.length_cons]
  omega
theorem z72a {l : List Int} {n : Nat} {cs : List z2a} (nl : Option Bool) (h : ∀ x ∈ l, z6k x) (hl : l.length ≤ 100000000) (hn : n = l.length) (hc : cs = z6j l) : z0N.pre [.sl .plain nl n cs] = True := by
 subst hn hc
 exact z2Ja hl h rfl
theorem z7Ia {l : List Int} {n : Nat} {cs : List z2a} (nl : Option Bool) (hc : cs = z6j l) : z0N.post [.sl .plain nl n cs] = .sl (.own 1) (some false) (z9q l).length (bys (z9q l)) := by
 subst hc
 rw [z0N, z9ea]; rfl
theorem z1tb {x : z3s} (h : x.ok) : ∀ z ∈ [x.time, x.kind, x.req, x.mode], z6k z := by
 obtain ⟨h1, h2, h3, h4, _⟩ := h
 intro z hz
 simp only [List.mem_cons, List.not_mem_nil, or_false] at hz
 rcases hz with rfl | rfl | rfl | rfl <;> assumption
def z6Tb (x : z3s) : List UInt8 := z9q [x.time, x.kind, x.req, x.mode] ++ (z90 (z96 x.cmd) ++ (x.dig ++ z7v x.made.length))
theorem z5Ub (x : z3s) : z5Fa x = (z6Tb x ++ x.made.flatMap z9Na) ++ z9q x.gone := by simp [z5Fa, z6Tb]
theorem z6tb {x : z3s} (h : x.small) : (z6Tb x).length ≤ 2000001000 := by
 have h1 := z0oa (z1tb h.1) (by simp)
 have h2 := z0xa h.2.1
 have h3 := z8l (n := ((z96 x.cmd).length : Int)) (by constructor <;> omega)
 have h4 := z8l (n := (x.made.length : Int)) (by have := h.2.2.1; constructor <;> omega)
 have h5 := h.1.2.2.2.2.2.1
 simp only [List.length_cons, List.length_nil] at h1
 rw [z6Tb, z90]
 simp only [List.length_append, h5]
 omega
set_option maxHeartbeats 16000000 in
theorem z6Eb (E : Env) (h39 : E.G 39 = z0N) (h130 : E.G 130 = z9ma) (h7 : E.G 7 = z5da) (h12 : E.G 12 = z1eb) (h129 : E.G 129 = z3z) : ∀ ds, z1Ra.pre ds → ds.length = z0p.n ∧ awp E z0p.body (z9u z0p.res (z1Ra.post ds)) (z8c z0p.wr ds) := by
 rintro _ ⟨nc, nm, ng, x, hx, rfl⟩
 rw [z9ya hx, z5Ub]
 have hd := hx.1.2.2.2.2.2.1
 have h16 := hx.1.2.2.2.2.2.2.1
 have hgo := hx.1.2.2.2.2.2.2.2
 have hml := hx.2.2.1
 have hgl := hx.2.2.2
 have hl := z6d (nc := nc) (nm := nm) (ng := ng) hd
 have h28 := z2ka (nc := nc) (nm := nm) (ng := ng) hd
 have h29 := z9sa (nc := nc) (nm := nm) (ng := ng) hd
 have hg := z5za (nc := nc) (nm := nm) (ng := ng) hd
 have hlen := z0d (z6b h16)
 have hHl := z6tb hx
 have hc2 := z0xa hx.2.1
 have hp4 : z0N.pre [.sl .plain (some false) 4 [i64 x.time, i64 x.kind, i64 x.req, i64 x.mode]] = True := z72a (some false) (z1tb hx.1) (by simp) rfl rfl
 have hq4 : z0N.post [.sl .plain (some false) 4 [i64 x.time, i64 x.kind, i64 x.req, i64 x.mode]] = _ := z7Ia (l := [x.time, x.kind, x.req, x.mode]) (some false) rfl
 have hpg : z0N.pre [.sl .plain ng x.gone.length (z6j x.gone)] = True := z72a ng hgo (by omega) rfl rfl
 have hqg : z0N.post [.sl .plain ng x.gone.length (z6j x.gone)] = _ := z7Ia (l := x.gone) ng rfl
 have hgle := z0oa hgo (by omega)
 have hib := z0Ka (n := (x.made.length : Int)) (by omega) (by omega)
 have hcp : z3z.pre [.sl .plain (some false) 4 [.sl (.own 1) (some false) (z9q [x.time, x.kind, x.req, x.mode]).length (bys (z9q [x.time, x.kind, x.req, x.mode])), .sl (.own 1) (some false) (z90 (z96 x.cmd)).length (bys (z90 (z96 x.cmd))), .sl .plain (some false) 16 (bys x.dig), .sl (.own 1) (some false) (z7v x.made.length).length (bys (z7v x.made.length))]] = True := by
  have := z5ka (nl := some false) (n := 4) (ps := [(true, some false, z9q [x.time, x.kind, x.req, x.mode]), (true, some false, z90 (z96 x.cmd)), (false, some false, x.dig), (true, some false, z7v x.made.length)]) (by
   have e := hHl
   simp only [z6Tb, List.length_append] at e
   simp only [z8Sb, List.map_cons, List.map_nil, List.sum_cons, List.sum_nil]
   omega) (by simp) rfl
  rw [← hd]
  exact this
 have hcq : z3z.post [.sl .plain (some false) 4 [.sl (.own 1) (some false) (z9q [x.time, x.kind, x.req, x.mode]).length (bys (z9q [x.time, x.kind, x.req, x.mode])), .sl (.own 1) (some false) (z90 (z96 x.cmd)).length (bys (z90 (z96 x.cmd))), .sl .plain (some false) 16 (bys x.dig), .sl (.own 1) (some false) (z7v x.made.length).length (bys (z7v x.made.length))]] = .sl (.own 1) none (z6Tb x).length (bys (z6Tb x)) := by
  have := z7fa (some false) 4 [(true, some false, z9q [x.time, x.kind, x.req, x.mode]), (true, some false, z90 (z96 x.cmd)), (false, some false, x.dig), (true, some false, z7v x.made.length)]
  simp only [List.flatMap_cons, List.flatMap_nil, List.append_nil] at this
  rw [← hd]
  exact this
 generalize hH : z6Tb x = H at *
 generalize hG : z9q x.gone = G at *
 generalize h4 : z9q [x.time, x.kind, x.req, x.mode] = e4 at *
 generalize hSS : z90 (z96 x.cmd) = eS at *
 generalize hN : z7v x.made.length = eN at *
 simp (maxSteps := 1000000) (disch := first | omega | (simp; done) | (simp; omega)) [z7a, z1a, z0a, z0p, hl, h39, hp4, hq4, h130, z0Pa hx.2.1, z9xa, h7, z2Ba, hSS, hg, h28, h12, hib, hN, h129, hcp, hcq, -z1a, -List.length_append]
 refine z3a fun Q0 hQ0 => ?_
 refine z7d (fun i : Nat => ⟨[(0, .agg (z7k nc nm ng x))], [(1, .ep (z7k nc nm ng x)), (3, .sl (.own 1) none (H ++ (x.made.take i).flatMap z9Na).length (bys (H ++ (x.made.take i).flatMap z9Na))), (31, .sl .plain nm x.made.length (z0b x.made)), (32, i64 x.made.length), (33, i64 i)], []⟩)
  (fun i => x.made.length - i) (fun i => i ≤ x.made.length) 0 (by simp) (by simp) fun i hi => ?_
 refine z3a fun Q1 hQ1 => ?_
 have hBl : (H ++ (x.made.take i).flatMap z9Na).length ≤ 2000001000 + 97 * i := by
  have := z4Ia (l := x.made.take i) fun m hm => h16 m (List.mem_of_mem_take hm)
  rw [List.length_append]
  rw [List.length_take] at this
  omega
 by_cases h1 : i < x.made.length
 ·have hm := h16 _ (z4fa h1)
  have hmd := hm.2.2.2.2.2.2.2
  have ha := z8xa h16 h1
  have hmll := z3o hmd
  have hle : 24 ≤ x.made.length * 24 - i * 24 := by omega
  have hle2 : i * 24 ≤ x.made.length * 24 := by omega
  have hs : (x.made.take (i + 1)).flatMap z9Na = (x.made.take i).flatMap z9Na ++ z9Na (atD x.made i) := by
   rw [List.take_succ_eq_append_getElem h1, List.flatMap_append, z4ba h1]; simp
  have hnok := z37a hm
  have e8l := z0oa hnok (by simp [z8sa])
  generalize hX : atD x.made i = X at *
  have sp : splice (i64 0 :: i64 0 :: i64 0 :: i64 0 :: i64 0 :: i64 0 :: i64 0 :: bo false :: bys (z9c 16)) 0 (z2q X) = z2q X := z8la hmd rfl
  have mtk := z1ua hmd
  have nl8 : (z8sa X).length = 8 := rfl
  rw [nl8] at e8l
  have key : ∀ r : Int, z7bd X.raw = r → z0N.pre [.sl .plain (some false) 8 [i64 X.id, i64 X.ty, i64 X.uses, i64 X.beg, i64 X.fin, i64 X.ver, i64 X.par, i64 r]] = True ∧
    z0N.post [.sl .plain (some false) 8 [i64 X.id, i64 X.ty, i64 X.uses, i64 X.beg, i64 X.fin, i64 X.ver, i64 X.par, i64 r]] = .sl (.own 1) (some false) (z9q (z8sa X)).length (bys (z9q (z8sa X))) := by
   rintro r rfl
   exact ⟨z72a (l := z8sa X) (some false) hnok (by rw [nl8]; omega) rfl rfl, z7Ia (l := z8sa X) (some false) rfl⟩
  have hcat : z9Na X = z9q (z8sa X) ++ X.dig := rfl
  generalize hE : z9q (z8sa X) = e8 at *
  generalize hB : H ++ (x.made.take i).flatMap z9Na = B at *
  have hcp8 : z3z.pre [.sl .plain (some false) 3 [.sl (.own 1) none B.length (bys B), .sl (.own 1) (some false) e8.length (bys e8), .sl .plain (some false) 16 (bys X.dig)]] = True := by
   have := z5ka (nl := some false) (n := 3) (ps := [(true, none, B), (true, some false, e8), (false, some false, X.dig)]) (by
    simp only [z8Sb, List.map_cons, List.map_nil, List.sum_cons, List.sum_nil]
    omega) (by simp) rfl
   rw [← hmd]
   exact this
  have hcq8 : z3z.post [.sl .plain (some false) 3 [.sl (.own 1) none B.length (bys B), .sl (.own 1) (some false) e8.length (bys e8), .sl .plain (some false) 16 (bys X.dig)]] = .sl (.own 1) none (B ++ z9Na X).length (bys (B ++ z9Na X)) := by
   have := z7fa (some false) 3 [(true, none, B), (true, some false, e8), (false, some false, X.dig)]
   simp only [List.flatMap_cons, List.flatMap_nil, List.append_nil] at this
   rw [← hmd, hcat]
   exact this
  have hs' : H ++ (x.made.take (i + 1)).flatMap z9Na = B ++ z9Na X := by rw [hs, ← List.append_assoc, hB]
  generalize hBX : B ++ z9Na X = B' at *
  cases hr : X.raw
  ·obtain ⟨k1, k2⟩ := key 0 (by rw [hr]; rfl)
   simp (maxSteps := 1000000) (disch := first | omega | (simp; done) | (simp; omega)) [z7a, z1a, z0a, z6B, z7Q, z5Q, kT, kF, dT, dF, h1, hlen, hle, hle2, ha, sp, hmll, mtk, z3F, z4Q, hr, h39, k1, k2, h129, hcp8, hcq8, z1Pc hmd, hmd, hQ1, -z1a, -List.length_append]
   exact ⟨i + 1, by omega, by omega, ⟨by rw [hs'], by rw [hs']⟩, by omega⟩
  ·obtain ⟨k1, k2⟩ := key 1 (by rw [hr]; rfl)
   simp (maxSteps := 1000000) (disch := first | omega | (simp; done) | (simp; omega)) [z7a, z1a, z0a, z6B, z7Q, z5Q, kT, kF, dT, dF, h1, hlen, hle, hle2, ha, sp, hmll, mtk, z3F, z4Q, hr, h39, k1, k2, h129, hcp8, hcq8, z1Pc hmd, hmd, hQ1, -z1a, -List.length_append]
   exact ⟨i + 1, by omega, by omega, ⟨by rw [hs'], by rw [hs']⟩, by omega⟩
 ·obtain rfl : i = x.made.length := by omega
  rw [List.take_length] at *
  generalize hB : H ++ x.made.flatMap z9Na = B at *
  simp (maxSteps := 1000000) (disch := first | omega | (simp; done) | (simp; omega)) [z7a, z1a, z0a, z6B, kT, kF, dT, dF, hQ1, hQ0, z25, hl, h29, h39, hpg, hqg, -List.length_append]
  exact ⟨by omega, List.length_append, by rw [← hB, List.append_assoc]⟩
theorem z7Pb (E : Env) (h302 : E.G 302 = z1Ra) (h8 : E.G 8 = ofC) : ∀ ds, z00a.pre ds → ds.length = z2p.n ∧ awp E z2p.body (z9u z2p.res (z00a.post ds)) (z8c z2p.wr ds) := by
 rintro _ ⟨nc, nm, ng, x, hx, rfl⟩
 rw [z2ya hx]
 have hd := hx.1.2.2.2.2.2.1
 have hl := z6d (nc := nc) (nm := nm) (ng := ng) hd
 have htk := z8q (nc := nc) (nm := nm) (ng := ng) hd
 have hle : (z5Fa x).length ≤ 2200000000 := by
  have h1 := z6tb hx
  have h2 := z4Ia hx.1.2.2.2.2.2.2.1
  have h3 := z0oa hx.1.2.2.2.2.2.2.2 (by have := hx.2.2.2; omega)
  have h4 := hx.2.2.1
  have h5 := hx.2.2.2
  rw [z5Ub, List.length_append, List.length_append]
  omega
 have hp : ofC.pre [i64 8, .sl .plain (some false) 1 [st (z5Fa x)]] = True := z7Ub (l := [z5Fa x]) rfl (by rw [z25c]; omega)
 simp (maxSteps := 1000000) (disch := first | omega | (simp; done) | (simp; omega)) [z7a, z1a, z0a, z2p, hl, htk, h302, z4cb hx, z9ya hx, h8, hp, z1o, z0s, z3A, z5Ma, z3E]
end Go.Abs
end

section
namespace Go.Abs
set_option maxRecDepth 100000
def rdE (nb : Option Bool) (b : List UInt8) : List z2a := [.sl .plain nb b.length (bys b), i64 0]
def qN (ds : List z2a) : Option Bool := gNl (nth (gCs (nth ds 0)) 0)
def qB (ds : List z2a) : List UInt8 := gBs (gCs (nth (gCs (nth ds 0)) 0))
@[simp] theorem qN_e (nb : Option Bool) (b : List UInt8) (n : Nat) (x : z2a) (r : List z2a) : qN (.ep [.sl .plain nb n (bys b), x] :: r) = nb := by simp [qN, gNl, nth]
@[simp] theorem qB_e (nb : Option Bool) (b : List UInt8) (n : Nat) (x : z2a) (r : List z2a) : qB (.ep [.sl .plain nb n (bys b), x] :: r) = b := by simp [qB, nth]
def z4ja : CM := ⟨[0], [], fun ds => ∃ (nb : Option Bool) (b : List UInt8), ds = [.ep (rdE nb b), bo true, i64 6], fun _ => bo true, fun ds _ => rdE (qN ds) (qB ds)⟩
def rdM (f : Nat) (v : List UInt8 → z2a) (u e : List UInt8 → Nat) : CM := ⟨[0], [], fun ds => ∃ (nb : Option Bool) (b : List UInt8), b.length ≤ 1000000000 ∧ e b = 0 ∧ u b ≤ b.length ∧ ds = [.ep (rdE nb b), .fn f [] []], fun ds => v (qB ds), fun ds _ => rdE (qN ds) ((qB ds).drop (u (qB ds)))⟩
def z8W : CM := rdM 45 (fun b => i64 (z0m b).1) (fun b => (z0m b).2.1) (fun b => (z0m b).2.2)
def z4W : CM := rdM 48 (fun b => st (z0ma b).1) (fun b => (z0ma b).2.1) (fun b => (z0ma b).2.2)
def z4x : CM := rdM 52 (fun b => .sl .plain none (z8z z0m 1 b).1.length (z6j (z8z z0m 1 b).1)) (fun b => (z8z z0m 1 b).2.1) (fun b => (z8z z0m 1 b).2.2)
def z6W : CM := rdM 320 (fun b => .agg (bys (b.take 16))) (fun _ => 16) (fun b => if b.length < 16 then 5 else 0)
def z3Ta : z5a := ⟨fun ds => ∃ (nl : Option Bool) (b : List UInt8), 16 ≤ b.length ∧ b.length ≤ 1000000000 ∧ ds = [.sl .plain nl b.length (bys b)], fun ds => .tup [.agg (bys ((gBs (gCs (nth ds 0))).take 16)), i64 16, i64 0]⟩
theorem z9yb {nl : Option Bool} {n : Nat} {b : List UInt8} (h : 16 ≤ b.length) (h' : b.length ≤ 1000000000) (hn : n = b.length) : z3Ta.pre [.sl .plain nl n (bys b)] = True := eq_true ⟨nl, b, h, h', by rw [hn]⟩
theorem z2Xa (nl : Option Bool) (n : Nat) (b : List UInt8) : z3Ta.post [.sl .plain nl n (bys b)] = .tup [.agg (bys (b.take 16)), i64 16, i64 0] := by simp [z3Ta, nth]
theorem sp16 {b : List UInt8} (h : 16 ≤ b.length) : splice (bys (z9c 16)) 0 (bys (b.take 16)) = bys (b.take 16) := by
 have hl : (bys (b.take 16)).length = 16 := by simp [h]
 rw [splice, hl]
 simp [z9c, bys]
theorem tk16 {b : List UInt8} (h : 16 ≤ b.length) : (bys (b.take 16)).take 16 = bys (b.take 16) := List.take_of_length_le (by simp; omega)
theorem ln16 {b : List UInt8} (h : 16 ≤ b.length) : (bys (b.take 16)).length = 16 := by simp [h]
theorem tkd (b : List UInt8) (n : Nat) : (b.drop n).take (b.length - n) = b.drop n := List.take_of_length_le (by simp)
theorem z34b (E : Env) : ∀ ds, z3Ta.pre ds → ds.length = z1p.n ∧ awp E z1p.body (z9u z1p.res (z3Ta.post ds)) (z8c z1p.wr ds) := by
 rintro _ ⟨nl, b, h, h', rfl⟩
 rw [z2Xa]
 have h1 : ¬ b.length < 16 := by omega
 have h2 : (b.take 16).take 16 = b.take 16 := List.take_of_length_le (by simp; omega)
 simp (maxSteps := 1000000) (disch := first | omega | (simp; done) | (simp; omega)) [z7a, z1a, z0a, z1p, z88, z56, z78, h, h1, kF, dF, kT, dT]
 rw [h2, sp16 h, tk16 h, ln16 h]
 exact ⟨by omega, by omega, rfl⟩
theorem z8dc (E : Env) : ∀ ds p, z4ja.pre ds → ds.length = z2j.n ∧ awp E z2j.body (z61a z2j.res z4ja p ds) (z5la z4ja.bx p ds) := by
 rintro _ p ⟨nb, b, rfl⟩
 simp (maxSteps := 1000000) (disch := first | omega | (simp; done) | (simp; omega)) [z7a, z1a, z0a, z2j, z2N, z8O, z9L, kT, kF, dT, dF, z4ja, rdE]
theorem z8Ab (E : Env) (h45 : E.G 45 = z1Q) : ∀ ds p, z8W.pre ds → ds.length = z1g.n ∧ awp E z1g.body (z61a z1g.res z8W p ds) (z5la z8W.bx p ds) := by
 rintro _ p ⟨nb, b, hb, he, hu, rfl⟩
 simp (maxSteps := 1000000) (disch := first | omega | (simp; done) | (simp; omega)) [z7a, z1a, z0a, z1g, z6A, z7A, z4A, z9z, z1A, z6z, z4z, kT, kF, dT, dF, z8W, rdM, rdE, h45, z1Q, z6ka, vI, z8p, he, hu, tkd]
theorem z0Ab (E : Env) (h48 : E.G 48 = z6Z) : ∀ ds p, z4W.pre ds → ds.length = z8e.n ∧ awp E z8e.body (z61a z8e.res z4W p ds) (z5la z4W.bx p ds) := by
 rintro _ p ⟨nb, b, hb, he, hu, rfl⟩
 simp (maxSteps := 1000000) (disch := first | omega | (simp; done) | (simp; omega)) [z7a, z1a, z0a, z8e, z9v, z7w, z0w, z4w, z8w, z2w, z8v, kT, kF, dT, dF, z4W, rdM, rdE, h48, z6Z, z6ka, z8p, he, hu, tkd]
theorem z1mb (E : Env) (h52 : E.G 52 = z9aa) : ∀ ds p, z4x.pre ds → ds.length = z3f.n ∧ awp E z3f.body (z61a z3f.res z4x p ds) (z5la z4x.bx p ds) := by
 rintro _ p ⟨nb, b, hb, he, hu, rfl⟩
 simp (maxSteps := 1000000) (disch := first | omega | (simp; done) | (simp; omega)) [z7a, z1a, z0a, z3f, z1y, z8y, z5y, z6x, z3y, z6y, z2y, kT, kF, dT, dF, z4x, rdM, rdE, h52, z9aa, z6ka, vIs, z8p, he, hu, tkd]
theorem z3Hb (E : Env) (h320 : E.G 320 = z3Ta) : ∀ ds p, z6W.pre ds → ds.length = z4f.n ∧ awp E z4f.body (z61a z4f.res z6W p ds) (z5la z6W.bx p ds) := by
 rintro _ p ⟨nb, b, hb, he, hu, rfl⟩
 have h16 : 16 ≤ b.length := hu
 simp (maxSteps := 1000000) (disch := first | omega | (simp; done) | (simp; omega)) [z7a, z1a, z0a, z4f, z0z, z7y, z0y, z4y, z7x, z9y, z8x, kT, kF, dT, dF, z6W, rdM, rdE, h320, z9yb, z2Xa, he, hu, h16, tkd]
 simp only [sp16 h16, tk16 h16, ln16 h16]
 simp
 omega
end Go.Abs
end

section
namespace Go.Abs
set_option maxRecDepth 100000
theorem z3wa (nb : Option Bool) (b : List UInt8) : z4ja.pre [.ep [.sl .plain nb b.length (bys b), i64 0], bo true, i64 6] = True := eq_true ⟨nb, b, rfl⟩
theorem z69 (ds : List z2a) : z4ja.post ds = bo true := rfl
theorem z1na (nb : Option Bool) (b : List UInt8) (n j : Nat) (r : List z2a) : z4ja.out (.ep [.sl .plain nb n (bys b), i64 0] :: r) j = [.sl .plain nb b.length (bys b), i64 0] := by simp [z4ja, rdE]
@[simp] theorem z38c : z4ja.bx = [0] := rfl
@[simp] theorem z6ad : z4ja.nb = [] := rfl
@[simp] theorem z5Tc : z8W.bx = [0] := rfl
@[simp] theorem z2Sc : z8W.nb = [] := rfl
@[simp] theorem z2Zc : z4W.bx = [0] := rfl
@[simp] theorem z6Sc : z4W.nb = [] := rfl
@[simp] theorem z0Nc : z4x.bx = [0] := rfl
@[simp] theorem z3Nc : z4x.nb = [] := rfl
@[simp] theorem z3Vc : z6W.bx = [0] := rfl
@[simp] theorem z1Xc : z6W.nb = [] := rfl
theorem z8Ta {nb : Option Bool} {b : List UInt8} {n : Nat} (hb : b.length ≤ 1000000000) (he : (z0m b).2.2 = 0) (hn : n = b.length) : z8W.pre [.ep [.sl .plain nb n (bys b), i64 0], .fn 45 [] []] = True := eq_true ⟨nb, b, hb, he, (z2na b).1, by rw [hn]; rfl⟩
theorem z6Ga (nb : Option Bool) (b : List UInt8) (n : Nat) (r : List z2a) : z8W.post (.ep [.sl .plain nb n (bys b), i64 0] :: r) = i64 (z0m b).1 := by simp [z8W, rdM]
theorem z8Ra (nb : Option Bool) (b : List UInt8) (n j : Nat) (r : List z2a) : z8W.out (.ep [.sl .plain nb n (bys b), i64 0] :: r) j = [.sl .plain nb (b.drop (z0m b).2.1).length (bys (b.drop (z0m b).2.1)), i64 0] := by simp [z8W, rdM, rdE]
theorem z6Ba {nb : Option Bool} {b : List UInt8} {n : Nat} (hb : b.length ≤ 1000000000) (he : (z0ma b).2.2 = 0) (hn : n = b.length) : z4W.pre [.ep [.sl .plain nb n (bys b), i64 0], .fn 48 [] []] = True := eq_true ⟨nb, b, hb, he, (z0mb b).1, by rw [hn]; rfl⟩
theorem z1Ha (nb : Option Bool) (b : List UInt8) (n : Nat) (r : List z2a) : z4W.post (.ep [.sl .plain nb n (bys b), i64 0] :: r) = st (z0ma b).1 := by simp [z4W, rdM]
theorem z2Va (nb : Option Bool) (b : List UInt8) (n j : Nat) (r : List z2a) : z4W.out (.ep [.sl .plain nb n (bys b), i64 0] :: r) j = [.sl .plain nb (b.drop (z0ma b).2.1).length (bys (b.drop (z0ma b).2.1)), i64 0] := by simp [z4W, rdM, rdE]
theorem z98 {nb : Option Bool} {b : List UInt8} {n : Nat} (hb : b.length ≤ 1000000000) (he : (z8z z0m 1 b).2.2 = 0) (hn : n = b.length) : z4x.pre [.ep [.sl .plain nb n (bys b), i64 0], .fn 52 [] []] = True := eq_true ⟨nb, b, hb, he, (z3Gb (enc := z7v) (P := z6k) z0Kb he).1, by rw [hn]; rfl⟩
theorem z6ba (nb : Option Bool) (b : List UInt8) (n : Nat) (r : List z2a) : z4x.post (.ep [.sl .plain nb n (bys b), i64 0] :: r) = .sl .plain none (z8z z0m 1 b).1.length (z6j (z8z z0m 1 b).1) := by simp [z4x, rdM]
theorem z9ia (nb : Option Bool) (b : List UInt8) (n j : Nat) (r : List z2a) : z4x.out (.ep [.sl .plain nb n (bys b), i64 0] :: r) j = [.sl .plain nb (b.drop (z8z z0m 1 b).2.1).length (bys (b.drop (z8z z0m 1 b).2.1)), i64 0] := by simp [z4x, rdM, rdE]
theorem z9Ua {nb : Option Bool} {b : List UInt8} {n : Nat} (hb : b.length ≤ 1000000000) (he : 16 ≤ b.length) (hn : n = b.length) : z6W.pre [.ep [.sl .plain nb n (bys b), i64 0], .fn 320 [] []] = True := eq_true ⟨nb, b, hb, if_neg (by omega), he, by rw [hn]; rfl⟩
theorem z6Fa (nb : Option Bool) (b : List UInt8) (n : Nat) (r : List z2a) : z6W.post (.ep [.sl .plain nb n (bys b), i64 0] :: r) = .agg (bys (b.take 16)) := by simp [z6W, rdM]
theorem z9Va (nb : Option Bool) (b : List UInt8) (n j : Nat) (r : List z2a) : z6W.out (.ep [.sl .plain nb n (bys b), i64 0] :: r) j = [.sl .plain nb (b.drop 16).length (bys (b.drop 16)), i64 0] := by simp [z6W, rdM, rdE]
/-! ### the command -/
def z9ka : CM := ⟨[0], [], fun ds => ∃ (nb : Option Bool) (b : List UInt8), ds = [.ep (rdE nb b), st (z96 dEx)], fun _ => .agg (z2o dEx none), fun ds _ => rdE (qN ds) (qB ds)⟩
theorem z1jb : ∃ (s b1 : List UInt8) (u1 u2 : Nat) (c : Cmd), z96 dEx = s ∧ dEx = c ∧ s.length ≤ 100000000 ∧ z6wa 6 s = (six c, b1, 0) ∧ z0ma b1 = (c.data, u1, 0) ∧ z8z z0m 1 (b1.drop u1) = (c.list, u2, 0) ∧ (b1.drop u1).drop u2 = [] := by
 exact ⟨z96 dEx, (z6wa 6 (z96 dEx)).2.1, (z0ma (z6wa 6 (z96 dEx)).2.1).2.1, (z8z z0m 1 ((z6wa 6 (z96 dEx)).2.1.drop (z0ma (z6wa 6 (z96 dEx)).2.1).2.1)).2.1, dEx, rfl, rfl, by decide +kernel, by kernel_rfl, by kernel_rfl, by kernel_rfl, by kernel_rfl⟩
theorem z5hd (a b c d e f : Int) : z6j [a, b, c, d, e, f] = [i64 a, i64 b, i64 c, i64 d, i64 e, i64 f] := rfl
theorem z2Wa (nb : Option Bool) : z4ja.pre [.ep [.sl .plain nb 0 [], i64 0], bo true, i64 6] = True := eq_true ⟨nb, [], rfl⟩
theorem z7Ua (nb : Option Bool) (j : Nat) (r : List z2a) : z4ja.out (.ep [.sl .plain nb 0 [], i64 0] :: r) j = [.sl .plain nb 0 [], i64 0] := z1na nb [] 0 j r
def c00 : Cmd := ⟨0, 0, 0, 0, 0, 0, [], []⟩
def z0vc (nb : Option Bool) (b : List UInt8) (p : Value) (i : Nat) (L : List Int) (t : List UInt8) : ASt := ⟨[(0, .lit p)], [(0, .bp 0 0), (4, .bp 4 0), (5, .bp 15 0), (22, .bv 22 1 0 6 6), (23, i64 6), (24, i64 i)],
 [(0, some [.sl .plain nb b.length (bys b), i64 0]), (4, some (z6j (z4jb L c00) ++ [st [], .sl .plain none 0 []])), (15, some [.sl .plain (some false) t.length (bys t), i64 0]), (22, some [.bp 4 0, .bp 4 1, .bp 4 2, .bp 4 3, .bp 4 4, .bp 4 5])]⟩
theorem hp4 {i : Nat} (h : i < 6) : hdA (([.bp 4 0, .bp 4 1, .bp 4 2, .bp 4 3, .bp 4 4, .bp 4 5] : List z2a).drop i) = .bp 4 i := by
 match i, h with
 | 0, _ | 1, _ | 2, _ | 3, _ | 4, _ | 5, _ => rfl
theorem gp4 {i : Nat} (h : i < 6) : ∀ h' : i < ([.bp 4 0, .bp 4 1, .bp 4 2, .bp 4 3, .bp 4 4, .bp 4 5] : List z2a).length, ([.bp 4 0, .bp 4 1, .bp 4 2, .bp 4 3, .bp 4 4, .bp 4 5] : List z2a)[i] = .bp 4 i := by
 intro h'
 match i, h with
 | 0, _ | 1, _ | 2, _ | 3, _ | 4, _ | 5, _ => rfl
set_option maxHeartbeats 4000000 in
theorem z7gc (E : Env) (h316 : E.M 316 = z4ja) (h323 : E.M 323 = z4x) (h324 : E.M 324 = z4W) (h326 : E.M 326 = z8W) : ∀ ds p, z9ka.pre ds → ds.length = z2e.n ∧ awp E z2e.body (z61a z2e.res z9ka p ds) (z5la z9ka.bx p ds) := by
 rintro _ p ⟨nb, b, rfl⟩
 obtain ⟨s, b1, u1, u2, c, hs, hc, hsl, g1, g2, g3, g4⟩ := z1jb
 have hpost : z61a z2e.res z9ka p [.ep (rdE nb b), st (z96 dEx)] = z61a z2e.res ⟨[0], [], fun _ => True, fun _ => .agg (z2o c none), fun _ _ => rdE nb b⟩ p [.ep (rdE nb b), st s] := by
  unfold z61a
  simp only [z9ka, hs, hc, rdE, qN_e, qB_e]
 rw [hs] at *
 rw [hpost, show z9ka.bx = [0] from rfl]
 simp (maxSteps := 1000000) (disch := first | omega | (simp; done) | (simp; omega)) [z7a, z1a, z0a, z2e, z8D, rdE]
 refine z3a fun Q0 hQ0 => ?_
 simp (maxSteps := 1000000) (disch := first | omega | (simp; done) | (simp; omega)) [z7a, z1a, z0a, z9C]
 refine z7d (fun q : Nat × List Int × List UInt8 => z0vc nb b (p 0) q.1 q.2.1 q.2.2) (fun q => 6 - q.1) (fun q => q.1 ≤ 6 ∧ q.2.1.length = q.1 ∧ q.2.2.length ≤ 100000000 ∧ (six c, b1, 0) = (q.2.1 ++ (z6wa (6 - q.1) q.2.2).1, (z6wa (6 - q.1) q.2.2).2)) (0, [], s) (by simp [z0vc, z4jb, six, z6j, c00]) ⟨Nat.zero_le _, rfl, hsl, by rw [← g1]; rfl⟩ fun q hq => ?_
 obtain ⟨i, L, t⟩ := q
 obtain ⟨hi, hl, ht, hE⟩ := hq
 simp only at hi hl ht hE
 refine z3a fun Q1 hQ1 => ?_
 have hlen := z3Cb (c := c00) (show L.length ≤ 6 by omega)
 by_cases h6 : i < 6
 ·obtain ⟨k, hk⟩ : ∃ k, 6 - i = k + 1 := ⟨5 - i, by omega⟩
  rw [hk] at hE
  obtain ⟨e1, e2, e3⟩ := z2na t
  by_cases he : (z0m t).2.2 = 0
  ·rw [z3tc he] at hE
   have hsp : splice (z6j (z4jb L c00) ++ [st [], .sl .plain none 0 []]) i [i64 (z0m t).1] = z6j (z4jb (L ++ [(z0m t).1]) c00) ++ [st [], .sl .plain none 0 []] := by
    rw [z5ba (by simp [hlen]; omega), z7Za (by omega), ← hl, z2Pb (by omega)]
   simp (maxSteps := 1000000) (disch := first | omega | (simp; done) | (simp; omega)) [z7a, z1a, z0a, z5r, z4r, z7D, h6, hp4 h6, gp4 h6, kT, kF, dT, dF, he, z0vc]
   simp (maxSteps := 1000000) (disch := first | omega | (simp; done) | (simp; omega)) [z7a, z1a, z0a, z4D, h326, z8Ta, z6Ga, z8Ra, he, kT, kF, dT, dF, z0Ra, hsp, hQ1]
   refine ⟨by omega, by omega, by simp [z1x], by omega, i + 1, by omega, L ++ [(z0m t).1], t.drop (z0m t).2.1, ⟨by omega, by simp [hl], by simp; omega, ?_⟩, ?_⟩
   ·have e4 := congrArg Prod.fst hE
    have e5 := congrArg Prod.snd hE
    rw [show 6 - (i + 1) = k by omega]
    simp only at e4 e5
    exact ⟨by rw [e4]; simp, e5⟩
   ·simp [z0vc]
  ·rw [z2Kc he] at hE
   simp at hE
   exact absurd hE.2.2.symm he
 ·obtain rfl : i = 6 := by omega
  have e0 : six c = L ∧ b1 = t := by simpa [z6wa] using hE
  obtain ⟨e0, rfl⟩ := e0
  have hx : z4jb L c00 = six c := by rw [← e0]; exact z2Ac rfl
  clear hE hlen e0
  obtain ⟨a0, a1, a2, a3, a4, a5, dt, ls⟩ := c
  simp (maxSteps := 1000000) (disch := first | omega | (simp; done) | (simp; omega)) [z7a, z1a, z0a, z5r, z4r, h6, kT, kF, dT, dF, z0vc, hQ1, hQ0, hx, six, z5hd]
  simp (maxSteps := 1000000) (disch := first | omega | (simp; done) | (simp; omega)) [z7a, z1a, z0a, z9D, z9E, h324, z6Ba, z1Ha, z2Va, g2, kT, kF, dT, dF]
  simp (maxSteps := 1000000) (disch := first | omega | (simp; done) | (simp; omega)) [z7a, z1a, z0a, z1D, h323, z98, z6ba, z9ia, g3, g4, kT, kF, dT, dF]
  simp (maxSteps := 1000000) (disch := first | omega | (simp; done) | (simp; omega)) [z7a, z1a, z0a, z2D, z0C, h316, z2Wa, z69, z7Ua, kT, kF, dT, dF, z2o, rdE]
  exact ⟨⟨by simp [z1x], of_eq_true (z6Ba (by omega) (by rw [g2]) rfl)⟩, ⟨by simp [z1x], of_eq_true (z98 (by simp; omega) (by rw [g3]) (by simp))⟩, by rw [z9f rfl]; simp, by rw [z9f rfl]; rfl⟩
end Go.Abs
end
