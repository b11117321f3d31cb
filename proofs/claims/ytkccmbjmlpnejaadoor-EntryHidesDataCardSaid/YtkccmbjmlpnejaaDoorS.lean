/- Lemmas: an abstract interpreter, and what the functions compute. -/
import Derived.Test.YtkccmbjmlpnejaaDoorC
import Derived.Test.YtkccmbjmlpnejaaDoorT
import Derived.Test.YtkccmbjmlpnejaaDoorQ
import Derived.Test.YtkccmbjmlpnejaaDoorP
import Derived.Test.YtkccmbjmlpnejaaDoorD
set_option linter.unusedSimpArgs false
set_option linter.unusedVariables false
set_option linter.unusedSectionVars false
section
namespace Go.Abs
set_option maxRecDepth 100000
def z7o : z5a :=
 .seq (
 .region [6] [.norm [3, 4, 5, 7, 8]] [
 ⟨some 82, none, .call 342 [] []⟩,
 ⟨some 83, none, .mv false (.s 82)⟩,
 ⟨some 84, (some (83, true)), .load (some 30) (some 3) false (.s 3)⟩,
 ⟨some 85, (some (83, true)), .call 300 [(.s 84)] []⟩,
 ⟨some 86, (some (83, true)), .load (some 30) (some 3) false (.s 3)⟩,
 ⟨some 87, (some (83, true)), .call 331 [(.s 86)] []⟩,
 ⟨some 88, (some (83, true)), .eqb false (.s 85) (.s 87)⟩,
 ⟨some 89, none, .pick (.s 83) (.s 88) (.c (bo false))⟩,
 ⟨some 90, none, .mv false (.s 89)⟩,
 ⟨some 91, (some (90, true)), .load (some 30) (some 3) false (.s 3)⟩,
 ⟨some 92, (some (90, true)), .load (some 30) (some 4) false (.s 4)⟩,
 ⟨some 93, (some (90, true)), .call 299 [(.s 91), (.s 92)] []⟩,
 ⟨some 94, (some (90, true)), .load (some 30) (some 3) false (.s 3)⟩,
 ⟨some 95, (some (90, true)), .load (some 30) (some 4) false (.s 4)⟩,
 ⟨some 96, (some (90, true)), .call 329 [(.s 94), (.s 95)] []⟩,
 ⟨some 97, (some (90, true)), .eqb false (.s 93) (.s 96)⟩,
 ⟨some 98, none, .pick (.s 90) (.s 97) (.c (bo false))⟩,
 ⟨some 99, none, .mv false (.s 98)⟩,
 ⟨some 100, (some (99, true)), .load (some 30) (some 3) false (.s 3)⟩,
 ⟨some 101, (some (99, true)), .call 302 [(.s 100)] []⟩,
 ⟨some 102, (some (99, true)), .load (some 30) (some 3) false (.s 3)⟩,
 ⟨some 103, (some (99, true)), .call 333 [(.s 102)] []⟩,
 ⟨some 104, (some (99, true)), .bin .eql (.s 101) (.s 103)⟩,
 ⟨some 105, none, .pick (.s 99) (.s 104) (.c (bo false))⟩,
 ⟨some 106, none, .mv false (.s 105)⟩,
 ⟨some 107, (some (106, true)), .load (some 30) (some 3) false (.s 3)⟩,
 ⟨some 108, (some (106, true)), .call 303 [(.s 107)] []⟩,
 ⟨some 109, (some (106, true)), .load (some 30) (some 3) false (.s 3)⟩,
 ⟨some 110, (some (106, true)), .call 334 [(.s 109)] []⟩,
 ⟨some 111, (some (106, true)), .eqF (ks8 16) false (.s 108) (.s 110)⟩,
 ⟨some 112, none, .pick (.s 106) (.s 111) (.c (bo false))⟩,
 ⟨some 6, none, .mv false (.s 112)⟩]) (
 .ret)
def z9o : z5a :=
 .seq (
 .region [3, 4, 5, 7] [.norm [3, 4, 5, 7]] [
 ⟨some 31, none, .fieldAddr 0 (.s 3)⟩,
 ⟨some 32, none, .load none (some 3) false (.s 31)⟩,
 ⟨some 33, none, .load (some 8) (some 5) false (.s 5)⟩,
 ⟨some 34, none, .fieldAddr 2 (.s 3)⟩,
 ⟨some 35, none, .load none (some 3) false (.s 34)⟩,
 ⟨some 36, none, .fieldAddr 3 (.s 3)⟩,
 ⟨some 37, none, .load none (some 3) false (.s 36)⟩,
 ⟨some 38, none, .fieldAddr 28 (.s 3)⟩,
 ⟨some 39, none, .load none (some 3) false (.s 38)⟩,
 ⟨some 40, none, .fieldAddr 29 (.s 3)⟩,
 ⟨some 41, none, .load none (some 3) false (.s 40)⟩,
 ⟨some 42, none, .call 292 [(.s 32), (.s 33), (.s 35), (.s 37), (.s 39), (.s 41)] []⟩,
 ⟨some 7, none, .alloc 7 (List.replicate 10 (i64 0) ++ [st []] ++ [.sl .plain none 0 []] ++ bys (z2c 16) ++ [.sl (.own 24) none 0 []] ++ [.sl (.own 1) none 0 []])⟩,
 ⟨none, none, .store (some 30) 7 false (.s 7) (.s 42)⟩]) (
 .seq (
 .region [3, 4, 5, 7, 8] [.norm [3, 4, 5, 7, 8]] [
 ⟨some 43, none, .fieldAddr 0 (.s 3)⟩,
 ⟨some 44, none, .load none (some 3) false (.s 43)⟩,
 ⟨some 45, none, .load (some 8) (some 5) false (.s 5)⟩,
 ⟨some 46, none, .fieldAddr 2 (.s 3)⟩,
 ⟨some 47, none, .load none (some 3) false (.s 46)⟩,
 ⟨some 48, none, .fieldAddr 3 (.s 3)⟩,
 ⟨some 49, none, .load none (some 3) false (.s 48)⟩,
 ⟨some 50, none, .fieldAddr 28 (.s 3)⟩,
 ⟨some 51, none, .load none (some 3) false (.s 50)⟩,
 ⟨some 52, none, .fieldAddr 29 (.s 3)⟩,
 ⟨some 53, none, .load none (some 3) false (.s 52)⟩,
 ⟨some 54, none, .call 328 [(.s 44), (.s 45), (.s 47), (.s 49), (.s 51), (.s 53)] []⟩,
 ⟨some 8, none, .alloc 8 (List.replicate 10 (i64 0) ++ [st []] ++ [.sl .plain none 0 []] ++ bys (z2c 16) ++ [.sl (.own 24) none 0 []] ++ [.sl (.own 1) none 0 []])⟩,
 ⟨none, none, .store (some 30) 8 false (.s 8) (.s 54)⟩]) (
 .seq (
 .region [3, 4, 5, 9] [.norm [3, 4, 5, 7, 8]] [
 ⟨some 55, none, .load (some 30) (some 7) false (.s 7)⟩,
 ⟨some 56, none, .load (some 30) (some 8) false (.s 8)⟩,
 ⟨some 57, none, .call 329 [(.s 55), (.s 56)] []⟩,
 ⟨some 9, none, .mv false (.s 57)⟩]) (
 .seq (
 .seq (
 .region [3, 4, 81] [.norm [3, 4, 5, 7, 8]] [
 ⟨some 58, none, .mv false (.s 9)⟩,
 ⟨some 59, none, .un .not (.s 58)⟩,
 ⟨some 60, none, .mv false (.s 59)⟩,
 ⟨some 61, (some (60, false)), .load (some 8) (some 5) false (.s 5)⟩,
 ⟨some 62, (some (60, false)), .call 289 [(.s 61)] []⟩,
 ⟨some 63, (some (60, false)), .load (some 8) (some 5) false (.s 5)⟩,
 ⟨some 64, (some (60, false)), .call 327 [(.s 63)] []⟩,
 ⟨some 65, (some (60, false)), .call 149 [(.s 62), (.s 64)] []⟩,
 ⟨some 66, (some (60, false)), .un .not (.s 65)⟩,
 ⟨some 67, none, .pick (.s 60) (.c (bo true)) (.s 66)⟩,
 ⟨some 68, none, .mv false (.s 67)⟩,
 ⟨some 69, (some (68, false)), .fieldAddr 0 (.s 3)⟩,
 ⟨some 70, (some (68, false)), .load none (some 3) false (.s 69)⟩,
 ⟨some 71, (some (68, false)), .fieldAddr 3 (.s 3)⟩,
 ⟨some 72, (some (68, false)), .load none (some 3) false (.s 71)⟩,
 ⟨some 73, (some (68, false)), .call 294 [(.s 70), (.s 72)] []⟩,
 ⟨some 74, (some (68, false)), .fieldAddr 0 (.s 3)⟩,
 ⟨some 75, (some (68, false)), .load none (some 3) false (.s 74)⟩,
 ⟨some 76, (some (68, false)), .fieldAddr 3 (.s 3)⟩,
 ⟨some 77, (some (68, false)), .load none (some 3) false (.s 76)⟩,
 ⟨some 78, (some (68, false)), .call 330 [(.s 75), (.s 77)] []⟩,
 ⟨some 79, (some (68, false)), .call 329 [(.s 73), (.s 78)] []⟩,
 ⟨some 80, (some (68, false)), .un .not (.s 79)⟩,
 ⟨some 81, none, .pick (.s 68) (.c (bo true)) (.s 80)⟩]) (
 .cond (.s 81) (
 .seq (
 .region [6] [] [
 ⟨some 6, none, .mv false (.c (bo false))⟩]) (
 .ret)) (
 .ghost (.keep [3, 4]) .skip))) (
 z7o))))
def z0b : z9q :=
 { n := 3, wr := [], res := [.t 6], body :=
 .seq (
 .region [3, 4, 5] [.norm [3, 4, 5]] [
 ⟨some 3, none, .box 3 (some 30) false (.s 0)⟩,
 ⟨some 4, none, .box 4 (some 30) false (.s 1)⟩,
 ⟨some 5, none, .box 5 (some 8) false (.s 2)⟩,
 ⟨some 6, none, .mv false (.c (bo false))⟩]) (
 .seq (
 .seq (
 .region [3, 4, 5, 29] [.norm [3, 4, 5]] [
 ⟨some 10, none, .load (some 30) (some 3) false (.s 3)⟩,
 ⟨some 11, none, .call 341 [(.s 10)] []⟩,
 ⟨some 12, none, .un .not (.s 11)⟩,
 ⟨some 13, none, .mv false (.s 12)⟩,
 ⟨some 14, (some (13, false)), .load (some 30) (some 4) false (.s 4)⟩,
 ⟨some 15, (some (13, false)), .call 341 [(.s 14)] []⟩,
 ⟨some 16, (some (13, false)), .un .not (.s 15)⟩,
 ⟨some 17, none, .pick (.s 13) (.c (bo true)) (.s 16)⟩,
 ⟨some 18, none, .mv false (.s 17)⟩,
 ⟨some 19, (some (18, false)), .fieldAddr 7 (.s 5)⟩,
 ⟨some 20, (some (18, false)), .load none (some 5) false (.s 19)⟩,
 ⟨some 21, (some (18, false)), .len false (.s 20)⟩,
 ⟨some 22, (some (18, false)), .bin .gtr (.s 21) (.c (i64 40))⟩,
 ⟨some 23, none, .pick (.s 18) (.c (bo true)) (.s 22)⟩,
 ⟨some 24, none, .mv false (.s 23)⟩,
 ⟨some 25, (some (24, false)), .fieldAddr 6 (.s 5)⟩,
 ⟨some 26, (some (24, false)), .load none (some 5) false (.s 25)⟩,
 ⟨some 27, (some (24, false)), .len true (.s 26)⟩,
 ⟨some 28, (some (24, false)), .bin .gtr (.s 27) (.c (i64 500))⟩,
 ⟨some 29, none, .pick (.s 24) (.c (bo true)) (.s 28)⟩]) (
 .cond (.s 29) (
 .seq (
 .region [6] [] [
 ⟨some 30, none, .call 342 [] []⟩,
 ⟨some 6, none, .mv false (.s 30)⟩]) (
 .ret)) (
 .ghost (.keep [3, 4, 5]) .skip))) (
 z9o)) }

def z9m : z5a :=
 .seq (
 .region [4] [] [
 ⟨some 39, none, .call 342 [] []⟩,
 ⟨some 40, none, .mv false (.s 39)⟩,
 ⟨some 41, (some (40, true)), .mv false (.s 5)⟩,
 ⟨some 42, (some (40, true)), .mv false (.s 41)⟩,
 ⟨some 43, (some (42, false)), .mv false (.s 6)⟩,
 ⟨some 44, (some (42, false)), .buildSl 1 1 [st []] [(0, 1, (.s 43))]⟩,
 ⟨some 45, (some (42, false)), .call 20 [(.c (i64 8)), (.s 44)] []⟩,
 ⟨some 46, (some (42, false)), .mv false (.s 7)⟩,
 ⟨some 47, (some (42, false)), .buildSl 1 1 [st []] [(0, 1, (.s 46))]⟩,
 ⟨some 48, (some (42, false)), .call 20 [(.c (i64 8)), (.s 47)] []⟩,
 ⟨some 49, (some (42, false)), .eqF (ks8 16) false (.s 45) (.s 48)⟩,
 ⟨some 50, (some (40, true)), .pick (.s 42) (.c (bo true)) (.s 49)⟩,
 ⟨some 51, none, .pick (.s 40) (.s 50) (.c (bo false))⟩,
 ⟨some 4, none, .mv false (.s 51)⟩]) (
 .ret)
def z0k : z5a :=
 .seq (
 .seq (
 .region [5, 6, 7, 33] [.norm [2, 3]] [
 ⟨some 29, none, .load (some 30) (some 2) false (.s 2)⟩,
 ⟨some 30, none, .call 303 [(.s 29)] []⟩,
 ⟨some 31, none, .load (some 30) (some 3) false (.s 3)⟩,
 ⟨some 32, none, .call 303 [(.s 31)] []⟩,
 ⟨some 33, none, .eqF (ks8 16) true (.s 30) (.s 32)⟩]) (
 .cond (.s 33) (
 .seq (
 .region [4] [] [
 ⟨some 34, none, .call 342 [] []⟩,
 ⟨some 35, none, .mv false (.s 34)⟩,
 ⟨some 36, (some (35, true)), .mv false (.s 5)⟩,
 ⟨some 37, (some (35, true)), .un .not (.s 36)⟩,
 ⟨some 38, none, .pick (.s 35) (.s 37) (.c (bo false))⟩,
 ⟨some 4, none, .mv false (.s 38)⟩]) (
 .ret)) (
 .ghost (.keep [5, 6, 7]) .skip))) (
 z9m)
def z1k : z5a :=
 .seq (
 .region [2, 3, 5] [.norm [2, 3]] [
 ⟨some 17, none, .load (some 30) (some 2) false (.s 2)⟩,
 ⟨some 18, none, .load (some 30) (some 3) false (.s 3)⟩,
 ⟨some 19, none, .call 329 [(.s 17), (.s 18)] []⟩,
 ⟨some 5, none, .mv false (.s 19)⟩]) (
 .seq (
 .region [2, 3, 5, 6] [.norm [2, 3]] [
 ⟨some 20, none, .load (some 30) (some 2) false (.s 2)⟩,
 ⟨some 21, none, .call 302 [(.s 20)] []⟩,
 ⟨some 6, none, .mv false (.s 21)⟩]) (
 .seq (
 .region [2, 3, 5, 6, 7] [.norm [2, 3]] [
 ⟨some 22, none, .load (some 30) (some 3) false (.s 3)⟩,
 ⟨some 23, none, .call 302 [(.s 22)] []⟩,
 ⟨some 7, none, .mv false (.s 23)⟩]) (
 .seq (
 .seq (
 .region [2, 3, 5, 6, 7, 28] [] [
 ⟨some 24, none, .mv false (.s 5)⟩,
 ⟨some 25, none, .mv false (.s 6)⟩,
 ⟨some 26, none, .mv false (.s 7)⟩,
 ⟨some 27, none, .bin .eql (.s 25) (.s 26)⟩,
 ⟨some 28, none, .eqb true (.s 24) (.s 27)⟩]) (
 .cond (.s 28) (
 .seq (
 .region [4] [] [
 ⟨some 4, none, .mv false (.c (bo false))⟩]) (
 .ret)) (
 .ghost (.keep [2, 3, 5, 6, 7]) .skip))) (
 z0k))))
def z9b : z9q :=
 { n := 2, wr := [], res := [.t 4], body :=
 .seq (
 .region [2, 3] [.norm [2, 3]] [
 ⟨some 2, none, .box 2 (some 30) false (.s 0)⟩,
 ⟨some 3, none, .box 3 (some 30) false (.s 1)⟩,
 ⟨some 4, none, .mv false (.c (bo false))⟩]) (
 .seq (
 .seq (
 .region [2, 3, 15] [.norm [2, 3]] [
 ⟨some 8, none, .load (some 30) (some 2) false (.s 2)⟩,
 ⟨some 9, none, .call 341 [(.s 8)] []⟩,
 ⟨some 10, none, .un .not (.s 9)⟩,
 ⟨some 11, none, .mv false (.s 10)⟩,
 ⟨some 12, (some (11, false)), .load (some 30) (some 3) false (.s 3)⟩,
 ⟨some 13, (some (11, false)), .call 341 [(.s 12)] []⟩,
 ⟨some 14, (some (11, false)), .un .not (.s 13)⟩,
 ⟨some 15, none, .pick (.s 11) (.c (bo true)) (.s 14)⟩]) (
 .cond (.s 15) (
 .seq (
 .region [4] [] [
 ⟨some 16, none, .call 342 [] []⟩,
 ⟨some 4, none, .mv false (.s 16)⟩]) (
 .ret)) (
 .ghost (.keep [2, 3]) .skip))) (
 z1k)) }

def z4l : z5a :=
 .cond (.s 45) (
 .seq (
 .region [12, 13] [.norm [5, 11, 12, 13]] [
 ⟨some 54, none, .fieldAddr 12 (.s 12)⟩,
 ⟨some 55, none, .load (some 16) (some 12) false (.s 54)⟩,
 ⟨some 56, none, .fieldAddr 12 (.s 13)⟩,
 ⟨none, none, .store (some 16) 13 false (.s 56) (.s 55)⟩]) (
 .seq (
 .region [10] [.norm [5, 11, 12, 13]] [
 ⟨some 57, none, .call 342 [] []⟩,
 ⟨some 58, none, .mv false (.s 57)⟩,
 ⟨some 59, (some (58, true)), .load (some 30) (some 12) false (.s 12)⟩,
 ⟨some 60, (some (58, true)), .load (some 30) (some 13) false (.s 13)⟩,
 ⟨some 61, (some (58, true)), .call 299 [(.s 59), (.s 60)] []⟩,
 ⟨some 62, none, .pick (.s 58) (.s 61) (.c (bo false))⟩,
 ⟨some 63, none, .mv false (.s 62)⟩,
 ⟨some 64, (some (63, true)), .fieldAddr 4 (.s 12)⟩,
 ⟨some 65, (some (63, true)), .fieldAddr 6 (.s 64)⟩,
 ⟨some 66, (some (63, true)), .load none (some 12) false (.s 65)⟩,
 ⟨some 67, (some (63, true)), .bin .eql (.s 66) (.c (st []))⟩,
 ⟨some 68, none, .pick (.s 63) (.s 67) (.c (bo false))⟩,
 ⟨some 10, none, .mv false (.s 68)⟩]) (
 .ret))) (
 .ghost (.keep [5, 12, 13]) .skip)
def z6q : z5a :=
 .seq (
 .region [10] [.norm [5, 11, 12, 13]] [
 ⟨some 69, none, .call 342 [] []⟩,
 ⟨some 70, none, .mv false (.s 69)⟩,
 ⟨some 71, (some (70, true)), .fieldAddr 4 (.s 12)⟩,
 ⟨some 72, (some (70, true)), .fieldAddr 6 (.s 71)⟩,
 ⟨some 73, (some (70, true)), .load none (some 12) false (.s 72)⟩,
 ⟨some 74, (some (70, true)), .fieldAddr 6 (.s 5)⟩,
 ⟨some 75, (some (70, true)), .load none (some 5) false (.s 74)⟩,
 ⟨some 76, (some (70, true)), .bin .eql (.s 73) (.s 75)⟩,
 ⟨some 77, none, .pick (.s 70) (.s 76) (.c (bo false))⟩,
 ⟨some 78, none, .mv false (.s 77)⟩,
 ⟨some 79, (some (78, true)), .fieldAddr 4 (.s 13)⟩,
 ⟨some 80, (some (78, true)), .fieldAddr 6 (.s 79)⟩,
 ⟨some 81, (some (78, true)), .load none (some 13) false (.s 80)⟩,
 ⟨some 82, (some (78, true)), .mv false (.s 1)⟩,
 ⟨some 83, (some (78, true)), .bin .eql (.s 81) (.s 82)⟩,
 ⟨some 84, none, .pick (.s 78) (.s 83) (.c (bo false))⟩,
 ⟨some 10, none, .mv false (.s 84)⟩]) (
 .ret)
def z5l : z5a :=
 .seq (
 .region [5, 11] [.norm [5, 11]] [
 ⟨some 30, none, .load (some 8) (some 5) false (.s 5)⟩,
 ⟨some 11, none, .alloc 11 (List.replicate 6 (i64 0) ++ [st []] ++ [.sl .plain none 0 []])⟩,
 ⟨none, none, .store (some 8) 11 false (.s 11) (.s 30)⟩]) (
 .seq (
 .region [5, 11] [.norm [5, 11]] [
 ⟨some 31, none, .mv false (.s 1)⟩,
 ⟨some 32, none, .fieldAddr 6 (.s 11)⟩,
 ⟨none, none, .store none 11 false (.s 32) (.s 31)⟩]) (
 .seq (
 .region [5, 11, 12] [.norm [5, 11, 12]] [
 ⟨some 33, none, .mv false (.s 2)⟩,
 ⟨some 34, none, .load (some 8) (some 5) false (.s 5)⟩,
 ⟨some 35, none, .mv false (.s 3)⟩,
 ⟨some 36, none, .mv false (.s 4)⟩,
 ⟨some 37, none, .call 292 [(.s 33), (.s 34), (.s 35), (.s 36), (.c (.lit (.slice none 0 0))), (.c (.lit (.slice none 0 0)))] []⟩,
 ⟨some 12, none, .alloc 12 (List.replicate 10 (i64 0) ++ [st []] ++ [.sl .plain none 0 []] ++ bys (z2c 16) ++ [.sl (.own 24) none 0 []] ++ [.sl (.own 1) none 0 []])⟩,
 ⟨none, none, .store (some 30) 12 false (.s 12) (.s 37)⟩]) (
 .seq (
 .region [5, 12, 13] [.norm [5, 11, 12, 13]] [
 ⟨some 38, none, .mv false (.s 2)⟩,
 ⟨some 39, none, .load (some 8) (some 11) false (.s 11)⟩,
 ⟨some 40, none, .mv false (.s 3)⟩,
 ⟨some 41, none, .mv false (.s 4)⟩,
 ⟨some 42, none, .call 292 [(.s 38), (.s 39), (.s 40), (.s 41), (.c (.lit (.slice none 0 0))), (.c (.lit (.slice none 0 0)))] []⟩,
 ⟨some 13, none, .alloc 13 (List.replicate 10 (i64 0) ++ [st []] ++ [.sl .plain none 0 []] ++ bys (z2c 16) ++ [.sl (.own 24) none 0 []] ++ [.sl (.own 1) none 0 []])⟩,
 ⟨none, none, .store (some 30) 13 false (.s 13) (.s 42)⟩]) (
 .seq (
 .seq (
 .region [5, 12, 13, 44] [.norm [5, 11, 12, 13]] [
 ⟨some 43, none, .fieldAddr 0 (.s 5)⟩,
 ⟨some 44, none, .load none (some 5) false (.s 43)⟩]) (
 .block 0 (
 .seq (
 .seq (
 .region [5, 12, 13, 44, 45] [] [
 ⟨some 46, none, .bin .eql (.s 44) (.c (i64 2))⟩,
 ⟨some 45, none, .mv false (.s 46)⟩]) (
 .cond (.s 45) (
 .ghost (.keep [5, 12, 13, 45]) .skip) (
 .seq (
 .region [5, 12, 13, 44, 45] [] [
 ⟨some 47, none, .bin .eql (.s 44) (.c (i64 4))⟩,
 ⟨some 45, none, .mv false (.s 47)⟩]) (
 .cond (.s 45) (
 .ghost (.keep [5, 12, 13, 45]) .skip) (
 .seq (
 .region [5, 12, 13, 44, 45] [] [
 ⟨some 48, none, .bin .eql (.s 44) (.c (i64 5))⟩,
 ⟨some 45, none, .mv false (.s 48)⟩]) (
 .cond (.s 45) (
 .ghost (.keep [5, 12, 13, 45]) .skip) (
 .seq (
 .region [5, 12, 13, 44, 45] [] [
 ⟨some 49, none, .bin .eql (.s 44) (.c (i64 6))⟩,
 ⟨some 45, none, .mv false (.s 49)⟩]) (
 .cond (.s 45) (
 .ghost (.keep [5, 12, 13, 45]) .skip) (
 .seq (
 .region [5, 12, 13, 44, 45] [] [
 ⟨some 50, none, .bin .eql (.s 44) (.c (i64 8))⟩,
 ⟨some 45, none, .mv false (.s 50)⟩]) (
 .cond (.s 45) (
 .ghost (.keep [5, 12, 13, 45]) .skip) (
 .seq (
 .region [5, 12, 13, 44, 45] [] [
 ⟨some 51, none, .bin .eql (.s 44) (.c (i64 10))⟩,
 ⟨some 45, none, .mv false (.s 51)⟩]) (
 .cond (.s 45) (
 .ghost (.keep [5, 12, 13, 45]) .skip) (
 .seq (
 .region [5, 12, 13, 44, 45] [] [
 ⟨some 52, none, .bin .eql (.s 44) (.c (i64 15))⟩,
 ⟨some 45, none, .mv false (.s 52)⟩]) (
 .cond (.s 45) (
 .ghost (.keep [5, 12, 13, 45]) .skip) (
 .region [5, 12, 13, 45] [] [
 ⟨some 53, none, .bin .eql (.s 44) (.c (i64 19))⟩,
 ⟨some 45, none, .mv false (.s 53)⟩]))))))))))))))) (
 z4l)))) (
 z6q)))))
def z3b : z9q :=
 { n := 5, wr := [], res := [.t 10], body :=
 .seq (
 .region [5] [.norm [5]] [
 ⟨some 5, none, .box 5 (some 8) false (.s 0)⟩,
 ⟨some 10, none, .mv false (.c (bo false))⟩]) (
 .seq (
 .seq (
 .region [5, 28] [.norm [5]] [
 ⟨some 14, none, .fieldAddr 7 (.s 5)⟩,
 ⟨some 15, none, .load none (some 5) false (.s 14)⟩,
 ⟨some 16, none, .len false (.s 15)⟩,
 ⟨some 17, none, .bin .gtr (.s 16) (.c (i64 40))⟩,
 ⟨some 18, none, .mv false (.s 17)⟩,
 ⟨some 19, (some (18, false)), .fieldAddr 6 (.s 5)⟩,
 ⟨some 20, (some (18, false)), .load none (some 5) false (.s 19)⟩,
 ⟨some 21, (some (18, false)), .len true (.s 20)⟩,
 ⟨some 22, (some (18, false)), .bin .gtr (.s 21) (.c (i64 500))⟩,
 ⟨some 23, none, .pick (.s 18) (.c (bo true)) (.s 22)⟩,
 ⟨some 24, none, .mv false (.s 23)⟩,
 ⟨some 25, (some (24, false)), .mv false (.s 1)⟩,
 ⟨some 26, (some (24, false)), .len true (.s 25)⟩,
 ⟨some 27, (some (24, false)), .bin .gtr (.s 26) (.c (i64 500))⟩,
 ⟨some 28, none, .pick (.s 24) (.c (bo true)) (.s 27)⟩]) (
 .cond (.s 28) (
 .seq (
 .region [10] [] [
 ⟨some 29, none, .call 342 [] []⟩,
 ⟨some 10, none, .mv false (.s 29)⟩]) (
 .ret)) (
 .ghost (.keep [5]) .skip))) (
 z5l)) }

def z2d : z9q :=
 { n := 1, wr := [], res := [.t 2], body :=
 .seq (
 .region [1] [.norm [1]] [
 ⟨some 1, none, .box 1 (some 30) false (.s 0)⟩,
 ⟨some 2, none, .mv false (.c (bo false))⟩]) (
 .seq (
 .region [2] [.norm [1]] [
 ⟨some 3, none, .fieldAddr 28 (.s 1)⟩,
 ⟨some 4, none, .load none (some 1) false (.s 3)⟩,
 ⟨some 5, none, .len false (.s 4)⟩,
 ⟨some 6, none, .bin .leq (.s 5) (.c (i64 40))⟩,
 ⟨some 7, none, .mv false (.s 6)⟩,
 ⟨some 8, (some (7, true)), .fieldAddr 29 (.s 1)⟩,
 ⟨some 9, (some (7, true)), .load none (some 1) false (.s 8)⟩,
 ⟨some 10, (some (7, true)), .len false (.s 9)⟩,
 ⟨some 11, (some (7, true)), .bin .leq (.s 10) (.c (i64 40))⟩,
 ⟨some 12, none, .pick (.s 7) (.s 11) (.c (bo false))⟩,
 ⟨some 13, none, .mv false (.s 12)⟩,
 ⟨some 14, (some (13, true)), .fieldAddr 4 (.s 1)⟩,
 ⟨some 15, (some (13, true)), .fieldAddr 7 (.s 14)⟩,
 ⟨some 16, (some (13, true)), .load none (some 1) false (.s 15)⟩,
 ⟨some 17, (some (13, true)), .len false (.s 16)⟩,
 ⟨some 18, (some (13, true)), .bin .leq (.s 17) (.c (i64 40))⟩,
 ⟨some 19, none, .pick (.s 13) (.s 18) (.c (bo false))⟩,
 ⟨some 20, none, .mv false (.s 19)⟩,
 ⟨some 21, (some (20, true)), .fieldAddr 4 (.s 1)⟩,
 ⟨some 22, (some (20, true)), .fieldAddr 6 (.s 21)⟩,
 ⟨some 23, (some (20, true)), .load none (some 1) false (.s 22)⟩,
 ⟨some 24, (some (20, true)), .len true (.s 23)⟩,
 ⟨some 25, (some (20, true)), .bin .leq (.s 24) (.c (i64 500))⟩,
 ⟨some 26, none, .pick (.s 20) (.s 25) (.c (bo false))⟩,
 ⟨some 2, none, .mv false (.s 26)⟩]) (
 .ret)) }

end Go.Abs
end

section
namespace Go.Abs
set_option maxRecDepth 100000
def z69a (x : z6w) : Bool := decide (x.made.length ≤ 40) && decide (x.gone.length ≤ 40) && decide (x.cmd.list.length ≤ 40) && decide (x.cmd.data.length ≤ 500)
def z2Qa : z4a := ⟨fun ds => ∃ (nc nm ng : Option Bool) (x : z6w), x.ok ∧ ds = [.agg (z5k nc nm ng x)], fun ds => bo (z69a (z6Sa (gCs (nth ds 0))))⟩
theorem z7ua {nc nm ng : Option Bool} {x : z6w} (h : x.ok) : z2Qa.pre [.agg (z5k nc nm ng x)] = True := eq_true ⟨nc, nm, ng, x, h, rfl⟩
theorem z5ea {nc nm ng : Option Bool} {x : z6w} (h : x.ok) : z2Qa.post [.agg (z5k nc nm ng x)] = bo (z69a x) := by
 show bo (z69a (z6Sa (z5k nc nm ng x))) = _
 rw [z1Ra h.2.2.2.2.2.1 (z0h h.2.2.2.2.2.2.1)]
theorem z3ga {x : z6w} (h : x.ok) (hf : z69a x = true) : x.small := by
 simp only [z69a, Bool.and_eq_true, decide_eq_true_eq] at hf
 obtain ⟨⟨⟨h1, h2⟩, h3⟩, h4⟩ := hf
 exact ⟨h, ⟨h.2.2.2.2.1, by omega, by omega⟩, by omega, by omega⟩
theorem z05b (E : Env) : ∀ ds, z2Qa.pre ds → ds.length = z2d.n ∧ awp E z2d.body (z9t z2d.res (z2Qa.post ds)) (z6c z2d.wr ds) := by
 rintro _ ⟨nc, nm, ng, x, hx, rfl⟩
 rw [z5ea hx]
 have hd := hx.2.2.2.2.2.1
 have hlen := z9c (nc := nc) (nm := nm) (ng := ng) hd
 have a7 : hdA ((z5k nc nm ng x).drop 11) = .sl .plain nc x.cmd.list.length (z3i x.cmd.list) := rfl
 have a6 : hdA ((z5k nc nm ng x).drop 10) = st x.cmd.data := rfl
 have a28 : hdA ((z5k nc nm ng x).drop 28) = .sl .plain nm x.made.length (z8d x.made) := z9ba hd
 have a29 : hdA ((z5k nc nm ng x).drop 29) = .sl .plain ng x.gone.length (z3i x.gone) := z1fa hd
 by_cases h1 : x.made.length ≤ 40
 ·have i1 : (x.made.length : Int) ≤ 40 := by omega
  by_cases h2 : x.gone.length ≤ 40
  ·have i2 : (x.gone.length : Int) ≤ 40 := by omega
   by_cases h3 : x.cmd.list.length ≤ 40
   ·have i3 : (x.cmd.list.length : Int) ≤ 40 := by omega
    by_cases h4 : x.cmd.data.length ≤ 500
    ·have i4 : (x.cmd.data.length : Int) ≤ 500 := by omega
     simp (maxSteps := 1000000) (disch := first | omega | (simp; done) | (simp; omega)) [z7a, z1a, z0a, z2d, hlen, a6, a7, a28, a29, h1, h2, h3, h4, i1, i2, i3, i4, z69a]
    ·have i4 : ¬ (x.cmd.data.length : Int) ≤ 500 := by omega
     simp (maxSteps := 1000000) (disch := first | omega | (simp; done) | (simp; omega)) [z7a, z1a, z0a, z2d, hlen, a6, a7, a28, a29, h1, h2, h3, h4, i1, i2, i3, i4, z69a]
   ·have i3 : ¬ (x.cmd.list.length : Int) ≤ 40 := by omega
    simp (maxSteps := 1000000) (disch := first | omega | (simp; done) | (simp; omega)) [z7a, z1a, z0a, z2d, hlen, a6, a7, a28, a29, h1, h2, h3, i1, i2, i3, z69a]
  ·have i2 : ¬ (x.gone.length : Int) ≤ 40 := by omega
   simp (maxSteps := 1000000) (disch := first | omega | (simp; done) | (simp; omega)) [z7a, z1a, z0a, z2d, hlen, a6, a7, a28, a29, h1, h2, i1, i2, z69a]
 ·have i1 : ¬ (x.made.length : Int) ≤ 40 := by omega
  simp (maxSteps := 1000000) (disch := first | omega | (simp; done) | (simp; omega)) [z7a, z1a, z0a, z2d, hlen, a6, a7, a28, a29, h1, i1, z69a]
end Go.Abs
end

section
namespace Go.Abs
set_option maxRecDepth 100000
def z5I : List z8b :=
 [
  ⟨(some 50), none, .load (some 8) (some 1) false (.s 1)⟩,
  ⟨(some 51), none, .call 289 [(.s 50)] []⟩,
  ⟨(some 52), none, .field none 6 (.s 51)⟩,
  ⟨(some 53), none, .bin .eql (.s 52) (.c (st []))⟩,
  ⟨(some 54), none, .mv false (.s 53)⟩]
def z2I : List z8b :=
 [
  ⟨(some 55), (some (54, true)), .build [i64 0, i64 0, i64 0, i64 0, i64 0, i64 0, st [], .sl .plain none 0 []] [(0, 1, (.c (i64 17))), (6, 1, (.c (st [120])))]⟩,
  ⟨(some 56), (some (54, true)), .call 289 [(.s 55)] []⟩,
  ⟨(some 57), (some (54, true)), .field none 6 (.s 56)⟩,
  ⟨(some 58), (some (54, true)), .bin .eql (.s 57) (.c (st [120]))⟩,
  ⟨(some 59), none, .pick (.s 54) (.s 58) (.c (bo false))⟩,
  ⟨(some 60), none, .mv false (.s 59)⟩]
def z2H : List z8b :=
 [
  ⟨(some 61), (some (60, true)), .load (some 30) (some 3) false (.s 3)⟩,
  ⟨(some 62), (some (60, true)), .call 300 [(.s 61)] []⟩,
  ⟨(some 63), none, .pick (.s 60) (.s 62) (.c (bo false))⟩,
  ⟨(some 64), none, .mv false (.s 63)⟩]
def z6H : List z8b :=
 [
  ⟨(some 65), (some (64, true)), .fieldAddr 12 (.s 3)⟩,
  ⟨(some 66), (some (64, true)), .load (some 16) (some 3) false (.s 65)⟩,
  ⟨(some 67), (some (64, true)), .load (some 8) (some 2) false (.s 2)⟩,
  ⟨(some 68), (some (64, true)), .call 148 [(.s 67)] []⟩,
  ⟨(some 69), (some (64, true)), .eqF (ks8 16) false (.s 66) (.s 68)⟩,
  ⟨(some 70), none, .pick (.s 64) (.s 69) (.c (bo false))⟩,
  ⟨(some 71), none, .mv false (.s 70)⟩]
def z9F : List z8b :=
 [
  ⟨(some 72), (some (71, true)), .mv false (.s 5)⟩,
  ⟨(some 73), (some (71, true)), .bin .eql (.s 72) (.c (i64 0))⟩,
  ⟨(some 74), none, .pick (.s 71) (.s 73) (.c (bo false))⟩,
  ⟨(some 75), none, .mv false (.s 74)⟩]
def z1F : List z8b :=
 [
  ⟨(some 76), (some (75, true)), .fieldAddr 3 (.s 4)⟩,
  ⟨(some 77), (some (75, true)), .load none (some 4) false (.s 76)⟩,
  ⟨(some 78), (some (75, true)), .bin .eql (.s 77) (.c (i64 2))⟩,
  ⟨(some 79), none, .pick (.s 75) (.s 78) (.c (bo false))⟩,
  ⟨(some 80), none, .mv false (.s 79)⟩]
def z1J : List z8b :=
 [
  ⟨(some 81), (some (80, true)), .fieldAddr 0 (.s 4)⟩,
  ⟨(some 82), (some (80, true)), .load none (some 4) false (.s 81)⟩,
  ⟨(some 83), (some (80, true)), .bin .eql (.s 82) (.c (i64 5))⟩,
  ⟨(some 84), none, .pick (.s 80) (.s 83) (.c (bo false))⟩,
  ⟨(some 85), none, .mv false (.s 84)⟩]
def z3G : List z8b :=
 [
  ⟨(some 86), (some (85, true)), .fieldAddr 2 (.s 4)⟩,
  ⟨(some 87), (some (85, true)), .load none (some 4) false (.s 86)⟩,
  ⟨(some 88), (some (85, true)), .bin .eql (.s 87) (.c (i64 1))⟩,
  ⟨(some 89), none, .pick (.s 85) (.s 88) (.c (bo false))⟩,
  ⟨(some 90), none, .mv false (.s 89)⟩]
def z6G : List z8b :=
 [
  ⟨(some 91), (some (90, true)), .fieldAddr 4 (.s 4)⟩,
  ⟨(some 92), (some (90, true)), .load none (some 4) false (.s 91)⟩,
  ⟨(some 93), (some (90, true)), .len false (.s 92)⟩,
  ⟨(some 94), (some (90, true)), .bin .eql (.s 93) (.c (i64 1))⟩,
  ⟨(some 95), none, .pick (.s 90) (.s 94) (.c (bo false))⟩,
  ⟨(some 96), none, .mv false (.s 95)⟩]
def z9H : List z8b :=
 [
  ⟨(some 97), (some (96, true)), .mv false (.s 7)⟩,
  ⟨(some 98), (some (96, true)), .bin .eql (.s 97) (.c (i64 7))⟩,
  ⟨(some 99), none, .pick (.s 96) (.s 98) (.c (bo false))⟩,
  ⟨(some 100), none, .mv false (.s 99)⟩]
def z6B : List z8b :=
 [
  ⟨(some 101), (some (100, true)), .mv false (.s 9)⟩,
  ⟨(some 102), (some (100, true)), .bin .eql (.s 101) (.c (i64 20))⟩,
  ⟨(some 103), none, .pick (.s 100) (.s 102) (.c (bo false))⟩,
  ⟨(some 104), none, .mv false (.s 103)⟩]
def z5C : List z8b :=
 [
  ⟨(some 105), (some (104, true)), .mv false (.s 11)⟩,
  ⟨(some 106), (some (104, true)), .bin .eql (.s 105) (.c (i64 0))⟩,
  ⟨(some 107), none, .pick (.s 104) (.s 106) (.c (bo false))⟩,
  ⟨(some 108), none, .mv false (.s 107)⟩]
def z6C : List z8b :=
 [
  ⟨(some 109), (some (108, true)), .fieldAddr 1 (.s 10)⟩,
  ⟨(some 110), (some (108, true)), .load none (some 10) false (.s 109)⟩,
  ⟨(some 111), (some (108, true)), .bin .eql (.s 110) (.c (i64 3))⟩,
  ⟨(some 112), none, .pick (.s 108) (.s 111) (.c (bo false))⟩,
  ⟨(some 113), none, .mv false (.s 112)⟩]
def z1D : List z8b :=
 [
  ⟨(some 114), (some (113, true)), .fieldAddr 2 (.s 10)⟩,
  ⟨(some 115), (some (113, true)), .load none (some 10) false (.s 114)⟩,
  ⟨(some 116), (some (113, true)), .bin .eql (.s 115) (.c (i64 2))⟩,
  ⟨(some 117), none, .pick (.s 113) (.s 116) (.c (bo false))⟩,
  ⟨(some 118), none, .mv false (.s 117)⟩]
def z3B : List z8b :=
 [
  ⟨(some 119), (some (118, true)), .mv false (.s 13)⟩,
  ⟨(some 120), (some (118, true)), .bin .eql (.s 119) (.c (i64 0))⟩,
  ⟨(some 121), none, .pick (.s 118) (.s 120) (.c (bo false))⟩,
  ⟨(some 122), none, .mv false (.s 121)⟩]
def z0C : List z8b :=
 [
  ⟨(some 123), (some (122, true)), .load (some 30) (some 3) false (.s 3)⟩,
  ⟨(some 124), (some (122, true)), .load (some 30) (some 12) false (.s 12)⟩,
  ⟨(some 125), (some (122, true)), .call 299 [(.s 123), (.s 124)] []⟩,
  ⟨(some 126), none, .pick (.s 122) (.s 125) (.c (bo false))⟩,
  ⟨(some 127), none, .mv false (.s 126)⟩]
def z1C : List z8b :=
 [
  ⟨(some 128), (some (127, true)), .load (some 5) (some 4) false (.s 4)⟩,
  ⟨(some 129), (some (127, true)), .call 311 [(.s 128), (.c (i64 8))] []⟩,
  ⟨(some 130), (some (127, true)), .len false (.s 129)⟩,
  ⟨(some 131), (some (127, true)), .bin .eql (.s 130) (.c (i64 1))⟩,
  ⟨(some 132), none, .pick (.s 127) (.s 131) (.c (bo false))⟩,
  ⟨(some 133), none, .mv false (.s 132)⟩]
def z4C : List z8b :=
 [
  ⟨(some 134), (some (133, true)), .load (some 5) (some 4) false (.s 4)⟩,
  ⟨(some 135), (some (133, true)), .call 311 [(.s 134), (.c (i64 9))] []⟩,
  ⟨(some 136), (some (133, true)), .len false (.s 135)⟩,
  ⟨(some 137), (some (133, true)), .bin .eql (.s 136) (.c (i64 0))⟩,
  ⟨(some 138), none, .pick (.s 133) (.s 137) (.c (bo false))⟩,
  ⟨(some 139), none, .mv false (.s 138)⟩]
def z9B : List z8b :=
 [
  ⟨(some 140), (some (139, true)), .load (some 30) (some 3) false (.s 3)⟩,
  ⟨(some 141), (some (139, true)), .call 303 [(.s 140)] []⟩,
  ⟨(some 142), (some (139, true)), .call 294 [(.c (i64 5)), (.c (i64 1))] []⟩,
  ⟨(some 143), (some (139, true)), .call 303 [(.s 142)] []⟩,
  ⟨(some 144), (some (139, true)), .eqF (ks8 16) true (.s 141) (.s 143)⟩,
  ⟨(some 145), none, .pick (.s 139) (.s 144) (.c (bo false))⟩,
  ⟨(some 0), none, .mv false (.s 145)⟩]
def z8H : z5a :=
 .seq (
  .region [0] [.norm [1, 2, 3, 4, 6, 8, 10, 12]] (z5I ++ (z2I ++ (z2H ++ (z6H ++ (z9F ++ (z1F ++ (z1J ++ (z3G ++ (z6G ++ (z9H ++ (z6B ++ (z5C ++ (z6C ++ (z1D ++ (z3B ++ (z0C ++ (z1C ++ (z4C ++ (z9B)))))))))))))))))))) (
 .ret)
def z7I : z5a :=
 .seq (
  .region [1, 2, 3, 4, 5, 7, 9, 10, 11, 12, 13] [.norm [1, 2, 3, 4, 6, 8, 10, 12]] [
   ⟨(some 45), none, .load (some 30) (some 3) false (.s 3)⟩,
   ⟨(some 46), none, .call 302 [(.s 45)] []⟩,
   ⟨(some 47), none, .call 322 [(.s 46)] []⟩,
   ⟨(some 44), none, .mv false (.s 47)⟩,
   ⟨(some 48), none, .extract 0 (.s 44)⟩,
   ⟨(some 49), none, .extract 1 (.s 44)⟩,
   ⟨(some 12), none, .alloc 12 (List.replicate 10 (i64 0) ++ [st []] ++ [.sl .plain none 0 []] ++ bys (z2c 16) ++ [.sl (.own 24) none 0 []] ++ [.sl (.own 1) none 0 []])⟩,
   ⟨none, none, .store (some 30) 12 false (.s 12) (.s 48)⟩,
   ⟨(some 13), none, .mv false (.s 49)⟩]) (
 z8H)
def z8F : z5a :=
 .seq (
  .region [1, 2, 3, 4, 5, 7, 9, 10, 11] [.norm [1, 2, 3, 4, 6, 8, 10]] [
   ⟨(some 39), none, .load (some 5) (some 4) false (.s 4)⟩,
   ⟨(some 40), none, .call 294 [(.c (i64 6)), (.c (i64 3))] []⟩,
   ⟨(some 41), none, .call 310 [(.s 39), (.s 40)] []⟩,
   ⟨(some 38), none, .mv false (.s 41)⟩,
   ⟨(some 42), none, .extract 0 (.s 38)⟩,
   ⟨(some 43), none, .extract 1 (.s 38)⟩,
   ⟨(some 10), none, .alloc 10 ([i64 0, i64 0, i64 0, i64 0] ++ [.sl (.own 24) none 0 []])⟩,
   ⟨none, none, .store (some 5) 10 false (.s 10) (.s 42)⟩,
   ⟨(some 11), none, .mv false (.s 43)⟩]) (
 z7I)
def z7G : z5a :=
 .seq (
  .region [1, 2, 3, 4, 5, 7, 9] [.norm [1, 2, 3, 4, 6, 8]] [
   ⟨(some 33), none, .load (some 5) (some 4) false (.s 4)⟩,
   ⟨(some 34), none, .call 294 [(.c (i64 4)), (.c (i64 3))] []⟩,
   ⟨(some 35), none, .call 310 [(.s 33), (.s 34)] []⟩,
   ⟨(some 32), none, .mv false (.s 35)⟩,
   ⟨(some 36), none, .extract 0 (.s 32)⟩,
   ⟨(some 37), none, .extract 1 (.s 32)⟩,
   ⟨(some 8), none, .alloc 8 ([i64 0, i64 0, i64 0, i64 0] ++ [.sl (.own 24) none 0 []])⟩,
   ⟨none, none, .store (some 5) 8 false (.s 8) (.s 36)⟩,
   ⟨(some 9), none, .mv false (.s 37)⟩]) (
 z8F)
def z6F : z5a :=
 .seq (
  .region [1, 2, 3, 4, 5, 7] [.norm [1, 2, 3, 4, 6]] [
   ⟨(some 27), none, .load (some 5) (some 4) false (.s 4)⟩,
   ⟨(some 28), none, .load (some 30) (some 3) false (.s 3)⟩,
   ⟨(some 29), none, .call 310 [(.s 27), (.s 28)] []⟩,
   ⟨(some 26), none, .mv false (.s 29)⟩,
   ⟨(some 30), none, .extract 0 (.s 26)⟩,
   ⟨(some 31), none, .extract 1 (.s 26)⟩,
   ⟨(some 6), none, .alloc 6 ([i64 0, i64 0, i64 0, i64 0] ++ [.sl (.own 24) none 0 []])⟩,
   ⟨none, none, .store (some 5) 6 false (.s 6) (.s 30)⟩,
   ⟨(some 7), none, .mv false (.s 31)⟩]) (
 z7G)
def z4G : z5a :=
 .seq (
  .region [1, 2, 3, 4, 5] [.norm [1, 2, 3, 4]] [
   ⟨(some 21), none, .call 304 [] []⟩,
   ⟨(some 22), none, .load (some 30) (some 3) false (.s 3)⟩,
   ⟨(some 23), none, .call 310 [(.s 21), (.s 22)] []⟩,
   ⟨(some 20), none, .mv false (.s 23)⟩,
   ⟨(some 24), none, .extract 0 (.s 20)⟩,
   ⟨(some 25), none, .extract 1 (.s 20)⟩,
   ⟨(some 4), none, .alloc 4 ([i64 0, i64 0, i64 0, i64 0] ++ [.sl (.own 24) none 0 []])⟩,
   ⟨none, none, .store (some 5) 4 false (.s 4) (.s 24)⟩,
   ⟨(some 5), none, .mv false (.s 25)⟩]) (
 z6F)
def z3F : z5a :=
 .seq (
  .region [1, 2, 3] [.norm [1, 2, 3]] [
   ⟨(some 16), none, .load (some 8) (some 2) false (.s 2)⟩,
   ⟨(some 17), none, .build (List.replicate 7 (i64 0) ++ [bo false] ++ bys (z2c 16)) [(0, 1, (.c (i64 1))), (1, 1, (.c (i64 2))), (4, 1, (.c (i64 9))), (5, 1, (.c (i64 1)))]⟩,
   ⟨(some 18), none, .buildSl 24 1 [i64 0, i64 0, i64 0, i64 0, i64 0, i64 0, i64 0, bo false, u8 0, u8 0, u8 0, u8 0, u8 0, u8 0, u8 0, u8 0, u8 0, u8 0, u8 0, u8 0, u8 0, u8 0, u8 0, u8 0] [(0, 24, (.s 17))]⟩,
   ⟨(some 19), none, .call 292 [(.c (i64 5)), (.s 16), (.c (i64 0)), (.c (i64 1)), (.s 18), (.c (.lit (.slice none 0 0)))] []⟩,
   ⟨(some 3), none, .alloc 3 (List.replicate 10 (i64 0) ++ [st []] ++ [.sl .plain none 0 []] ++ bys (z2c 16) ++ [.sl (.own 24) none 0 []] ++ [.sl (.own 1) none 0 []])⟩,
   ⟨none, none, .store (some 30) 3 false (.s 3) (.s 19)⟩]) (
 z4G)
def z3E : z5a :=
 .seq (
  .region [1, 2] [.norm [1, 2]] [
   ⟨(some 15), none, .build [i64 0, i64 0, i64 0, i64 0, i64 0, i64 0, st [], .sl .plain none 0 []] [(0, 1, (.c (i64 1))), (3, 1, (.c (i64 2)))]⟩,
   ⟨(some 2), none, .alloc 2 (List.replicate 6 (i64 0) ++ [st []] ++ [.sl .plain none 0 []])⟩,
   ⟨none, none, .store (some 8) 2 false (.s 2) (.s 15)⟩]) (
 z3F)
def z5H : z5a :=
 .seq (
  .region [1] [.norm [1]] [
   ⟨(some 14), none, .build [i64 0, i64 0, i64 0, i64 0, i64 0, i64 0, st [], .sl .plain none 0 []] [(0, 1, (.c (i64 2))), (6, 1, (.c (st [115, 101, 99, 114, 101, 116])))]⟩,
   ⟨(some 1), none, .alloc 1 (List.replicate 6 (i64 0) ++ [st []] ++ [.sl .plain none 0 []])⟩,
   ⟨none, none, .store (some 8) 1 false (.s 1) (.s 14)⟩]) (
 z3E)
def z5f : z9q :=
 { n := 0, wr := [], res := [.t 0], body :=
  .seq (
   .region [] [] [
    ⟨(some 0), none, .mv false (.c (bo false))⟩]) (
  z5H) }

end Go.Abs
end

section
namespace Go.Abs
set_option maxRecDepth 100000
def sEx : Cmd := ⟨2, 0, 0, 0, 0, 0, [115, 101, 99, 114, 101, 116], []⟩
theorem z5Ua : dEx.small := by
 refine ⟨⟨?_, ?_, ?_, ?_, ?_, ?_, ?_⟩, ?_, ?_⟩
 all_goals first | (constructor <;> decide) | (simp [dEx]; done)
theorem z9rb : sEx.small := by
 refine ⟨⟨?_, ?_, ?_, ?_, ?_, ?_, ?_⟩, ?_, ?_⟩
 all_goals first | (constructor <;> decide) | (simp [sEx]; done)
theorem dExL (nl : Option Bool) : [i64 1, i64 0, i64 0, i64 2, i64 0, i64 0, st [], .sl .plain nl 0 []] = z2k dEx nl := rfl
theorem sExL (nl : Option Bool) : [i64 2, i64 0, i64 0, i64 0, i64 0, i64 0, st [115, 101, 99, 114, 101, 116], .sl .plain nl 0 []] = z2k sEx nl := rfl
def tEx : Cmd := ⟨17, 0, 0, 0, 0, 0, [120], []⟩
theorem z2sb : tEx.small := by
 refine ⟨⟨?_, ?_, ?_, ?_, ?_, ?_, ?_⟩, ?_, ?_⟩
 all_goals first | (constructor <;> decide) | (simp [tEx]; done)
theorem z4Na (nl : Option Bool) : [i64 17, i64 0, i64 0, i64 0, i64 0, i64 0, st [120], .sl .plain nl 0 []] = z2k tEx nl := rfl
theorem z00c : splice ([i64 0, i64 0, i64 0, i64 0, i64 0, i64 0, i64 0, bo false, u8 0, u8 0, u8 0, u8 0, u8 0, u8 0, u8 0, u8 0, u8 0, u8 0, u8 0, u8 0, u8 0, u8 0, u8 0, u8 0] : List z2a) 0 (i64 1 :: i64 2 :: i64 0 :: i64 0 :: i64 9 :: i64 1 :: i64 0 :: bo false :: bys (z2c 16)) = z8d [mEx] := rfl
set_option maxHeartbeats 16000000 in
theorem z8wb (E : Env) (h289 : E.G 289 = z5ka) (h292 : E.G 292 = z8Wa) (h294 : E.G 294 = z17a) (h299 : E.G 299 = z8ha) (h300 : E.G 300 = z9Ya) (h302 : E.G 302 = z1ia) (h303 : E.G 303 = z4oa) (h304 : E.G 304 = z0Yb) (h310 : E.G 310 = z9Za) (h311 : E.G 311 = z04b) (h322 : E.G 322 = z6Pa) (h148 : E.G 148 = z2ia) : ∀ ds, z7Kb.pre ds → ds.length = z5f.n ∧ awp E z5f.body (z9t z5f.res (z7Kb.post ds)) (z6c z5f.wr ds) := by
 rintro _ rfl
 simp (maxSteps := 1000000) (disch := first | omega | (simp; done) | (simp; omega)) [z7a, z1a, z0a, z5f, z5H, dExL, sExL, z7Fa]
 simp (maxSteps := 1000000) (disch := first | omega | (simp; done) | (simp; omega)) [z7a, z1a, z0a, z3E, dExL, sExL, z7Fa]
 have hX : (xEx DEx).small := z9Pa rfl
 have m1 : z8d [mEx] = z8d [mEx] := rfl
 have pm : z8Wa.pre [i64 5, .agg (z2k dEx none), i64 0, i64 1, .sl .plain (some false) 1 (z8d [mEx]), .sl .plain (some true) 0 []] = True := z4za (made := [mEx]) (gone := []) z5Ua (by intro m hm; simp only [List.mem_singleton] at hm; subst hm; exact hX.1.2.2.2.2.2.2.1 _ (List.mem_singleton.2 rfl)) (by decide) (by decide)
 have qm : z8Wa.post [i64 5, .agg (z2k dEx none), i64 0, i64 1, .sl .plain (some false) 1 (z8d [mEx]), .sl .plain (some true) 0 []] = .agg (z5k none none none (xEx DEx)) := by
  have := z6la (now := 5) (req := 0) (mode := 1) (c := dEx) (nc := none) (nm := some false) (ng := some true) (made := [mEx]) (gone := []) (by intro m hm; simp only [List.mem_singleton] at hm; subst hm; exact hX.1.2.2.2.2.2.2.1 _ (List.mem_singleton.2 rfl)) 0
  rw [mkE, z1Sb] at this
  exact this
 simp (maxSteps := 1000000) (disch := first | omega | (simp; done) | (simp; omega)) [z7a, z1a, z0a, z3F, h292, z00c, pm, qm, z1j (x := xEx DEx) rfl]
 have vs (nk : Option Bool) (v : z0V) (a b c d e : z2a) : splice [a, b, c, d, e] 0 (z0q nk v) = z0q nk v := rfl
 have v0 : vOk z2bb := by simp [vOk, z2bb, z3f, z0ua, z8o]
 have vE : vOk vEx := ⟨by intro m hm; simp only [vEx, List.mem_singleton] at hm; subst hm; exact hX.1.2.2.2.2.2.2.1 _ (List.mem_singleton.2 rfl), by decide, by constructor <;> decide, by decide, by decide⟩
 have pa := z9ua (nk := none) (nc := none) (nm := none) (ng := none) v0 hX rfl (by decide)
 have qa := z4ea (nk := none) (nc := none) (nm := none) (ng := none) v0 hX
 have pb := z9ua (nk := none) (nc := none) (nm := none) (ng := none) vE hX rfl (by decide)
 have qb := z4ea (nk := none) (nc := none) (nm := none) (ng := none) vE hX
 rw [z25c] at qa
 rw [z4oc] at qb
 have vp (nk : Option Bool) (v : z0V) : z5h (z0q nk v) = true := by simp [z0q]
 have vl (nk : Option Bool) (v : z0V) : (z0q nk v).length = 5 := rfl
 have view_tk (nk : Option Bool) (v : z0V) : (z0q nk v).take 5 = z0q nk v := rfl
 have vc (nk : Option Bool) (v : z0V) : (∀ c ∈ z0q nk v, z1d c) = True := eq_true (by intro c hc; simp only [z0q, List.mem_cons, List.not_mem_nil, or_false] at hc; rcases hc with rfl | rfl | rfl | rfl | rfl <;> trivial)
 have vt (nk : Option Bool) (v : z0V) : (∀ c ∈ z0q nk v, z3g c = false) = True := eq_true (by intro c hc; simp only [z0q, List.mem_cons, List.not_mem_nil, or_false] at hc; rcases hc with rfl | rfl | rfl | rfl | rfl <;> rfl)
 have s4 : (z1sa 4 3).small := z94 (by constructor <;> decide) (by constructor <;> decide)
 have s6 : (z1sa 6 3).small := z94 (by constructor <;> decide) (by constructor <;> decide)
 have s5 : (z1sa 5 1).small := z94 (by constructor <;> decide) (by constructor <;> decide)
 have pc := z9ua (nk := none) (nc := none) (nm := none) (ng := none) vE s4 rfl (by decide)
 have qc := z4ea (nk := none) (nc := none) (nm := none) (ng := none) vE s4
 have pd := z9ua (nk := none) (nc := none) (nm := none) (ng := none) vE s6 rfl (by decide)
 have qd := z4ea (nk := none) (nc := none) (nm := none) (ng := none) vE s6
 rw [z66b] at qc
 rw [z1sc] at qd
 have hle : (z08 (xEx DEx)).length = 70 := by kernel_rfl
 have pe := z4ha (nc := none) (nm := none) (ng := none) hX
 have qe := z2S (nc := none) (nm := none) (ng := none) hX
 have pf : z6Pa.pre [st (z08 (xEx DEx))] = True := eq_true rfl
 have qf : z6Pa.post [st (z08 (xEx DEx))] = .tup [.agg (z5k none none none (xEx DEx)), i64 0] := rfl
 simp (maxSteps := 1000000) (disch := first | omega | (simp; done) | (simp; omega)) [z7a, z1a, z0a, z4G, h304, pa, qa, h310, vs, vp, vl, vc, vt, z1j (x := xEx DEx) rfl, z5m (x := xEx DEx) rfl, z9c (x := xEx DEx) rfl, view_tk]
 simp (maxSteps := 1000000) (disch := first | omega | (simp; done) | (simp; omega)) [z7a, z1a, z0a, z6F, pb, qb, h310, vs, vp, vl, vc, vt, z1j (x := xEx DEx) rfl, z5m (x := xEx DEx) rfl, z9c (x := xEx DEx) rfl, view_tk]
 simp (maxSteps := 1000000) (disch := first | omega | (simp; done) | (simp; omega)) [z7a, z1a, z0a, z7G, h294, pc, qc, h310, vs, vp, vl, vc, vt, z1j (x := xEx DEx) rfl, z5m (x := xEx DEx) rfl, z9c (x := xEx DEx) rfl, view_tk]
 simp (maxSteps := 1000000) (disch := first | omega | (simp; done) | (simp; omega)) [z7a, z1a, z0a, z8F, h294, pd, qd, h310, vs, vp, vl, vc, vt, z1j (x := xEx DEx) rfl, z5m (x := xEx DEx) rfl, z9c (x := xEx DEx) rfl, view_tk]
 simp (maxSteps := 1000000) (disch := first | omega | (simp; done) | (simp; omega)) [z7a, z1a, z0a, z7I, h302, h322, pe, qe, pf, qf, h310, vs, vp, vl, vc, vt, z1j (x := xEx DEx) rfl, z5m (x := xEx DEx) rfl, z9c (x := xEx DEx) rfl, view_tk]
 clear pa qa pb qb pc qc pd qd pe qe pf qf pm qm
 have c1 : z5ka.post [.agg (z2k sEx none)] = .agg [i64 2, i64 0, i64 0, i64 0, i64 0, i64 0, st [], .sl .plain none 0 []] := by rw [z0pa]; rfl
 have c2 : z5ka.post [.agg (z2k tEx none)] = .agg [i64 17, i64 0, i64 0, i64 0, i64 0, i64 0, st [120], .sl .plain none 0 []] := by rw [z0pa]; rfl
 have d1 : z5ka.pre [.agg (z2k sEx none)] = True := z4xa z9rb
 have d2 : z5ka.pre [.agg (z2k tEx none)] = True := z4xa z2sb
 have e1 := z3Ha (nc := none) (nm := none) (ng := none) hX
 have e2 := z1ha (nc := none) (nm := none) (ng := none) hX
 rw [okEx] at e2
 have f1 : ((z5k none none none (xEx DEx)).drop 12).take 16 = bys DEx := z19 rfl
 have f2 : z2ia.pre [.agg (z2k dEx none)] = True := z3Ma z5Ua
 have f3 : z2ia.post [.agg (z2k dEx none)] = .agg (bys DEx) := by rw [z7ca, z1Sb]
 have v1 : hdA (z0q none vEx) = i64 5 := rfl
 have v2 : hdA ((z0q none vEx).drop 2) = i64 1 := rfl
 have v3 : hdA ((z0q none vEx).drop 3) = i64 2 := rfl
 have v4 : hdA ((z0q none vEx).drop 4) = .sl .plain none 1 (z8d [mEx]) := rfl
 have v5 : hdA ((z0q none ⟨6, 3, 2, 2, [mEx]⟩).drop 1) = i64 3 := rfl
 have v5t : hdA (z0q none ⟨6, 3, 2, 2, [mEx]⟩).tail = i64 3 := rfl
 have v6 : hdA ((z0q none ⟨6, 3, 2, 2, [mEx]⟩).drop 2) = i64 2 := rfl
 have s1 := z88 (nc := none) (nm := none) (ng := none) (nc' := none) (nm' := none) (ng' := none) hX hX
 have s2 := z3M (nc := none) (nm := none) (ng := none) (nc' := none) (nm' := none) (ng' := none) hX hX
 have s3 : z2L (xEx DEx) (xEx DEx) = true := by kernel_rfl
 rw [s3] at s2
 have l1 := z3pb (nk := none) (v := vEx) 8 vE.1 vE.2.1
 have l2 := z0Ia (nk := none) (v := vEx) 8 vE.1
 have l3 := z3pb (nk := none) (v := vEx) 9 vE.1 vE.2.1
 have l4 := z0Ia (nk := none) (v := vEx) 9 vE.1
 rw [z19b] at l2
 rw [z2bc] at l4
 have g1 := z2oa (nc := none) (nm := none) (ng := none) hX
 have g2 := z6X (nc := none) (nm := none) (ng := none) hX
 have g3 := z2oa (nc := none) (nm := none) (ng := none) s5
 have g4 := z6X (nc := none) (nm := none) (ng := none) s5
 obtain ⟨z1, hz1, n1⟩ : ∃ z, z2p 8 [z08 (xEx DEx)] = z ∧ z.length = 16 := ⟨_, rfl, z8m _ _⟩
 obtain ⟨z2, hz2, n2⟩ : ∃ z, z2p 8 [z08 (z1sa 5 1)] = z ∧ z.length = 16 := ⟨_, rfl, z8m _ _⟩
 have ne : ¬ z1 = z2 := by rw [← hz1, ← hz2, z4Ic, z1xc]; decide
 rw [hz1] at g2
 rw [hz2] at g4
 have nD : DEx.length = 16 := rfl
 have t6 : (z2k tEx none)[6]?.getD z2a.undef = st [120] := rfl
 have t7 : dem (st [120]) = st [120] := rfl
 unfold z8H
 rw [z8y]
 refine z3a fun Q2 hQ2 => ?_
 rw [z2r]
 refine z2b fun T hT => ?_
 simp (maxSteps := 1000000) (disch := first | omega | (simp; done) | (simp; omega)) [z7a, z1a, z0a, t6, t7, z5I, h289, c1, c2, d1, d2, z4Na, h300, e1, e2, f1, f2, f3, h148, z1b nD nD, v1, v2, v3, v4, v5, v5t, v6, h299, s1, s2, h311, l1, l2, l3, l4, h303, g1, g2, g3, g4, h294, z1b n1 n2, ne, nD, n1, n2, vs, vp, vl, vc, vt, view_tk, z1j (x := xEx DEx) rfl, z5m (x := xEx DEx) rfl, z9c (x := xEx DEx) rfl]
 rw [hT]; clear hT
 refine z2b fun T hT => ?_
 simp (maxSteps := 1000000) (disch := first | omega | (simp; done) | (simp; omega)) [z7a, z1a, z0a, t6, t7, z2I, h289, c1, c2, d1, d2, z4Na, h300, e1, e2, f1, f2, f3, h148, z1b nD nD, v1, v2, v3, v4, v5, v5t, v6, h299, s1, s2, h311, l1, l2, l3, l4, h303, g1, g2, g3, g4, h294, z1b n1 n2, ne, nD, n1, n2, vs, vp, vl, vc, vt, view_tk, z1j (x := xEx DEx) rfl, z5m (x := xEx DEx) rfl, z9c (x := xEx DEx) rfl]
 rw [hT]; clear hT
 refine z2b fun T hT => ?_
 simp (maxSteps := 1000000) (disch := first | omega | (simp; done) | (simp; omega)) [z7a, z1a, z0a, t6, t7, z2H, h289, c1, c2, d1, d2, z4Na, h300, e1, e2, f1, f2, f3, h148, z1b nD nD, v1, v2, v3, v4, v5, v5t, v6, h299, s1, s2, h311, l1, l2, l3, l4, h303, g1, g2, g3, g4, h294, z1b n1 n2, ne, nD, n1, n2, vs, vp, vl, vc, vt, view_tk, z1j (x := xEx DEx) rfl, z5m (x := xEx DEx) rfl, z9c (x := xEx DEx) rfl]
 rw [hT]; clear hT
 refine z2b fun T hT => ?_
 simp (maxSteps := 1000000) (disch := first | omega | (simp; done) | (simp; omega)) [z7a, z1a, z0a, t6, t7, z6H, h289, c1, c2, d1, d2, z4Na, h300, e1, e2, f1, f2, f3, h148, z1b nD nD, v1, v2, v3, v4, v5, v5t, v6, h299, s1, s2, h311, l1, l2, l3, l4, h303, g1, g2, g3, g4, h294, z1b n1 n2, ne, nD, n1, n2, vs, vp, vl, vc, vt, view_tk, z1j (x := xEx DEx) rfl, z5m (x := xEx DEx) rfl, z9c (x := xEx DEx) rfl]
 rw [hT]; clear hT
 refine z2b fun T hT => ?_
 simp (maxSteps := 1000000) (disch := first | omega | (simp; done) | (simp; omega)) [z7a, z1a, z0a, t6, t7, z9F, h289, c1, c2, d1, d2, z4Na, h300, e1, e2, f1, f2, f3, h148, z1b nD nD, v1, v2, v3, v4, v5, v5t, v6, h299, s1, s2, h311, l1, l2, l3, l4, h303, g1, g2, g3, g4, h294, z1b n1 n2, ne, nD, n1, n2, vs, vp, vl, vc, vt, view_tk, z1j (x := xEx DEx) rfl, z5m (x := xEx DEx) rfl, z9c (x := xEx DEx) rfl]
 rw [hT]; clear hT
 refine z2b fun T hT => ?_
 simp (maxSteps := 1000000) (disch := first | omega | (simp; done) | (simp; omega)) [z7a, z1a, z0a, t6, t7, z1F, h289, c1, c2, d1, d2, z4Na, h300, e1, e2, f1, f2, f3, h148, z1b nD nD, v1, v2, v3, v4, v5, v5t, v6, h299, s1, s2, h311, l1, l2, l3, l4, h303, g1, g2, g3, g4, h294, z1b n1 n2, ne, nD, n1, n2, vs, vp, vl, vc, vt, view_tk, z1j (x := xEx DEx) rfl, z5m (x := xEx DEx) rfl, z9c (x := xEx DEx) rfl]
 rw [hT]; clear hT
 refine z2b fun T hT => ?_
 simp (maxSteps := 1000000) (disch := first | omega | (simp; done) | (simp; omega)) [z7a, z1a, z0a, t6, t7, z1J, h289, c1, c2, d1, d2, z4Na, h300, e1, e2, f1, f2, f3, h148, z1b nD nD, v1, v2, v3, v4, v5, v5t, v6, h299, s1, s2, h311, l1, l2, l3, l4, h303, g1, g2, g3, g4, h294, z1b n1 n2, ne, nD, n1, n2, vs, vp, vl, vc, vt, view_tk, z1j (x := xEx DEx) rfl, z5m (x := xEx DEx) rfl, z9c (x := xEx DEx) rfl]
 rw [hT]; clear hT
 refine z2b fun T hT => ?_
 simp (maxSteps := 1000000) (disch := first | omega | (simp; done) | (simp; omega)) [z7a, z1a, z0a, t6, t7, z3G, h289, c1, c2, d1, d2, z4Na, h300, e1, e2, f1, f2, f3, h148, z1b nD nD, v1, v2, v3, v4, v5, v5t, v6, h299, s1, s2, h311, l1, l2, l3, l4, h303, g1, g2, g3, g4, h294, z1b n1 n2, ne, nD, n1, n2, vs, vp, vl, vc, vt, view_tk, z1j (x := xEx DEx) rfl, z5m (x := xEx DEx) rfl, z9c (x := xEx DEx) rfl]
 rw [hT]; clear hT
 refine z2b fun T hT => ?_
 simp (maxSteps := 1000000) (disch := first | omega | (simp; done) | (simp; omega)) [z7a, z1a, z0a, t6, t7, z6G, h289, c1, c2, d1, d2, z4Na, h300, e1, e2, f1, f2, f3, h148, z1b nD nD, v1, v2, v3, v4, v5, v5t, v6, h299, s1, s2, h311, l1, l2, l3, l4, h303, g1, g2, g3, g4, h294, z1b n1 n2, ne, nD, n1, n2, vs, vp, vl, vc, vt, view_tk, z1j (x := xEx DEx) rfl, z5m (x := xEx DEx) rfl, z9c (x := xEx DEx) rfl]
 rw [hT]; clear hT
 refine z2b fun T hT => ?_
 simp (maxSteps := 1000000) (disch := first | omega | (simp; done) | (simp; omega)) [z7a, z1a, z0a, t6, t7, z9H, h289, c1, c2, d1, d2, z4Na, h300, e1, e2, f1, f2, f3, h148, z1b nD nD, v1, v2, v3, v4, v5, v5t, v6, h299, s1, s2, h311, l1, l2, l3, l4, h303, g1, g2, g3, g4, h294, z1b n1 n2, ne, nD, n1, n2, vs, vp, vl, vc, vt, view_tk, z1j (x := xEx DEx) rfl, z5m (x := xEx DEx) rfl, z9c (x := xEx DEx) rfl]
 rw [hT]; clear hT
 refine z2b fun T hT => ?_
 simp (maxSteps := 1000000) (disch := first | omega | (simp; done) | (simp; omega)) [z7a, z1a, z0a, t6, t7, z6B, h289, c1, c2, d1, d2, z4Na, h300, e1, e2, f1, f2, f3, h148, z1b nD nD, v1, v2, v3, v4, v5, v5t, v6, h299, s1, s2, h311, l1, l2, l3, l4, h303, g1, g2, g3, g4, h294, z1b n1 n2, ne, nD, n1, n2, vs, vp, vl, vc, vt, view_tk, z1j (x := xEx DEx) rfl, z5m (x := xEx DEx) rfl, z9c (x := xEx DEx) rfl]
 rw [hT]; clear hT
 refine z2b fun T hT => ?_
 simp (maxSteps := 1000000) (disch := first | omega | (simp; done) | (simp; omega)) [z7a, z1a, z0a, t6, t7, z5C, h289, c1, c2, d1, d2, z4Na, h300, e1, e2, f1, f2, f3, h148, z1b nD nD, v1, v2, v3, v4, v5, v5t, v6, h299, s1, s2, h311, l1, l2, l3, l4, h303, g1, g2, g3, g4, h294, z1b n1 n2, ne, nD, n1, n2, vs, vp, vl, vc, vt, view_tk, z1j (x := xEx DEx) rfl, z5m (x := xEx DEx) rfl, z9c (x := xEx DEx) rfl]
 rw [hT]; clear hT
 refine z2b fun T hT => ?_
 simp (maxSteps := 1000000) (disch := first | omega | (simp; done) | (simp; omega)) [z7a, z1a, z0a, t6, t7, z6C, h289, c1, c2, d1, d2, z4Na, h300, e1, e2, f1, f2, f3, h148, z1b nD nD, v1, v2, v3, v4, v5, v5t, v6, h299, s1, s2, h311, l1, l2, l3, l4, h303, g1, g2, g3, g4, h294, z1b n1 n2, ne, nD, n1, n2, vs, vp, vl, vc, vt, view_tk, z1j (x := xEx DEx) rfl, z5m (x := xEx DEx) rfl, z9c (x := xEx DEx) rfl]
 rw [hT]; clear hT
 refine z2b fun T hT => ?_
 simp (maxSteps := 1000000) (disch := first | omega | (simp; done) | (simp; omega)) [z7a, z1a, z0a, t6, t7, z1D, h289, c1, c2, d1, d2, z4Na, h300, e1, e2, f1, f2, f3, h148, z1b nD nD, v1, v2, v3, v4, v5, v5t, v6, h299, s1, s2, h311, l1, l2, l3, l4, h303, g1, g2, g3, g4, h294, z1b n1 n2, ne, nD, n1, n2, vs, vp, vl, vc, vt, view_tk, z1j (x := xEx DEx) rfl, z5m (x := xEx DEx) rfl, z9c (x := xEx DEx) rfl]
 rw [hT]; clear hT
 refine z2b fun T hT => ?_
 simp (maxSteps := 1000000) (disch := first | omega | (simp; done) | (simp; omega)) [z7a, z1a, z0a, t6, t7, z3B, h289, c1, c2, d1, d2, z4Na, h300, e1, e2, f1, f2, f3, h148, z1b nD nD, v1, v2, v3, v4, v5, v5t, v6, h299, s1, s2, h311, l1, l2, l3, l4, h303, g1, g2, g3, g4, h294, z1b n1 n2, ne, nD, n1, n2, vs, vp, vl, vc, vt, view_tk, z1j (x := xEx DEx) rfl, z5m (x := xEx DEx) rfl, z9c (x := xEx DEx) rfl]
 rw [hT]; clear hT
 refine z2b fun T hT => ?_
 simp (maxSteps := 1000000) (disch := first | omega | (simp; done) | (simp; omega)) [z7a, z1a, z0a, t6, t7, z0C, h289, c1, c2, d1, d2, z4Na, h300, e1, e2, f1, f2, f3, h148, z1b nD nD, v1, v2, v3, v4, v5, v5t, v6, h299, s1, s2, h311, l1, l2, l3, l4, h303, g1, g2, g3, g4, h294, z1b n1 n2, ne, nD, n1, n2, vs, vp, vl, vc, vt, view_tk, z1j (x := xEx DEx) rfl, z5m (x := xEx DEx) rfl, z9c (x := xEx DEx) rfl]
 rw [hT]; clear hT
 refine z2b fun T hT => ?_
 simp (maxSteps := 1000000) (disch := first | omega | (simp; done) | (simp; omega)) [z7a, z1a, z0a, t6, t7, z1C, h289, c1, c2, d1, d2, z4Na, h300, e1, e2, f1, f2, f3, h148, z1b nD nD, v1, v2, v3, v4, v5, v5t, v6, h299, s1, s2, h311, l1, l2, l3, l4, h303, g1, g2, g3, g4, h294, z1b n1 n2, ne, nD, n1, n2, vs, vp, vl, vc, vt, view_tk, z1j (x := xEx DEx) rfl, z5m (x := xEx DEx) rfl, z9c (x := xEx DEx) rfl]
 rw [hT]; clear hT
 refine z2b fun T hT => ?_
 simp (maxSteps := 1000000) (disch := first | omega | (simp; done) | (simp; omega)) [z7a, z1a, z0a, t6, t7, z4C, h289, c1, c2, d1, d2, z4Na, h300, e1, e2, f1, f2, f3, h148, z1b nD nD, v1, v2, v3, v4, v5, v5t, v6, h299, s1, s2, h311, l1, l2, l3, l4, h303, g1, g2, g3, g4, h294, z1b n1 n2, ne, nD, n1, n2, vs, vp, vl, vc, vt, view_tk, z1j (x := xEx DEx) rfl, z5m (x := xEx DEx) rfl, z9c (x := xEx DEx) rfl]
 rw [hT]; clear hT
 simp (maxSteps := 1000000) (disch := first | omega | (simp; done) | (simp; omega)) [z7a, z1a, z0a, t6, t7, z9B, h289, c1, c2, d1, d2, z4Na, h300, e1, e2, f1, f2, f3, h148, z1b nD nD, v1, v2, v3, v4, v5, v5t, v6, h299, s1, s2, h311, l1, l2, l3, l4, h303, g1, g2, g3, g4, h294, z1b n1 n2, ne, nD, n1, n2, vs, vp, vl, vc, vt, view_tk, z1j (x := xEx DEx) rfl, z5m (x := xEx DEx) rfl, z9c (x := xEx DEx) rfl, hQ2]
end Go.Abs
end
