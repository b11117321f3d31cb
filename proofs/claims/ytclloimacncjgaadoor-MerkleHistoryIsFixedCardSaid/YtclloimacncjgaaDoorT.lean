/- Lemmas: an abstract interpreter, and what the functions compute. -/
import Derived.Test.YtclloimacncjgaaDoorC
import Derived.Test.YtclloimacncjgaaDoorD
set_option linter.unusedSimpArgs false
set_option linter.unusedVariables false
set_option linter.unusedSectionVars false
section
namespace Go.Abs
set_option maxRecDepth 100000
def f_merkle_Prove_r0 : ACode :=
 .seq (
 .region [2, 6] [.norm [2, 6]] [
 ⟨some 6, none, .alloc 6 [.sl (.own 16) none 0 []]⟩]) (
 .seq (
 .region [6] [.norm [2, 6]] [
 ⟨some 15, none, .load none (some 2) false (.s 2)⟩,
 ⟨some 16, none, .len false (.s 15)⟩,
 ⟨some 17, none, .mv false (.s 1)⟩,
 ⟨some 18, none, .mkfn 159 [] [(.s 6), (.s 2)]⟩,
 ⟨some 19, none, .callw 160 none [(.s 16), (.s 17), (.s 18)] [(10, 6), (11, 2)] []⟩]) (
 .seq (
 .alt (
 .ghost (.drop [2]) (.ghost (.thawB 6 0 920) (
 .region [6] [.norm [2, 6, 920], .freeze [920]] [
 ⟨some 20, none, .load none (some 6) false (.s 6)⟩,
 ⟨some 21, none, .callw 161 none [(.s 20)] [(0, 920)] []⟩]))) (
 .region [6] [.norm [2, 6]] [
 ⟨some 20, none, .load none (some 6) false (.s 6)⟩,
 ⟨some 21, none, .call 162 [(.s 20)] []⟩])) (
 .seq (
 .region [4, 5] [.norm [2, 6]] [
 ⟨some 22, none, .load none (some 6) false (.s 6)⟩,
 ⟨some 4, none, .mv true (.s 22)⟩,
 ⟨some 5, none, .mv false (.c (i64 0))⟩]) (
 .ret))))
def f_merkle_Prove : AFun :=
 { n := 2, wr := [], res := [.t 4, .t 5], body :=
 .seq (
 .region [2] [.norm [2]] [
 ⟨some 2, none, .box 2 none false (.s 0)⟩,
 ⟨some 4, none, .mv true (.c (.sl (.own 16) none 0 []))⟩,
 ⟨some 5, none, .mv false (.c (i64 0))⟩]) (
 .seq (
 .seq (
 .region [2, 14] [.norm [2]] [
 ⟨some 7, none, .mv false (.s 1)⟩,
 ⟨some 8, none, .bin .lss (.s 7) (.c (i64 0))⟩,
 ⟨some 9, none, .mv false (.s 8)⟩,
 ⟨some 10, (some (9, false)), .mv false (.s 1)⟩,
 ⟨some 11, (some (9, false)), .load none (some 2) false (.s 2)⟩,
 ⟨some 12, (some (9, false)), .len false (.s 11)⟩,
 ⟨some 13, (some (9, false)), .bin .geq (.s 10) (.s 12)⟩,
 ⟨some 14, none, .pick (.s 9) (.c (bo true)) (.s 13)⟩]) (
 .cond (.s 14) (
 .seq (
 .region [4, 5] [] [
 ⟨some 4, none, .mv true (.c (.sl (.own 16) none 0 []))⟩,
 ⟨some 5, none, .mv false (.c (i64 11))⟩]) (
 .ret)) (
 .ghost (.keep [2]) .skip))) (
 f_merkle_Prove_r0)) }

def f_merkle_ProvePrefix_r2 : ACode :=
 .seq (
 .region [0, 1, 6, 8] [] [
 ⟨some 37, none, .mv true (.s 6)⟩,
 ⟨some 38, none, .mv false (.s 0)⟩,
 ⟨some 39, none, .mv false (.s 8)⟩,
 ⟨some 40, none, .slSl 16 (.s 38) none (some (.s 39)) none⟩,
 ⟨some 41, none, .call 168 [(.s 40)] []⟩,
 ⟨some 42, none, .buildSl 16 1 (bys (zeros 16)) [(0, 16, (.s 41))]⟩,
 ⟨some 43, none, .append 16 16 false none none 37 (.s 42)⟩,
 ⟨some 6, none, .mv true (.s 43)⟩]) (
 .region [0, 1, 6, 7] [] [
 ⟨some 44, none, .mv true (.s 0)⟩,
 ⟨some 45, none, .mv false (.s 8)⟩,
 ⟨some 46, none, .slSl 16 (.s 44) (some (.s 45)) none none⟩,
 ⟨some 47, none, .mv false (.s 1)⟩,
 ⟨some 48, none, .mv false (.s 8)⟩,
 ⟨some 49, none, .bin .sub (.s 47) (.s 48)⟩,
 ⟨some 0, none, .mv true (.s 46)⟩,
 ⟨some 1, none, .mv false (.s 49)⟩,
 ⟨some 7, none, .mv false (.c (bo false))⟩])
def f_merkle_ProvePrefix_r1 : ACode :=
 .block 1 (
 .seq (
 .region [0, 1, 6, 7, 8] [] [
 ⟨some 21, none, .mv false (.s 0)⟩,
 ⟨some 22, none, .len false (.s 21)⟩,
 ⟨some 23, none, .call 167 [(.s 22)] []⟩,
 ⟨some 8, none, .mv false (.s 23)⟩]) (
 .seq (
 .seq (
 .region [0, 1, 6, 7, 8, 26] [] [
 ⟨some 24, none, .mv false (.s 1)⟩,
 ⟨some 25, none, .mv false (.s 8)⟩,
 ⟨some 26, none, .bin .leq (.s 24) (.s 25)⟩]) (
 .cond (.s 26) (
 .seq (
 .region [0, 1, 6, 7, 8] [] [
 ⟨some 27, none, .mv true (.s 6)⟩,
 ⟨some 28, none, .mv false (.s 0)⟩,
 ⟨some 29, none, .mv false (.s 8)⟩,
 ⟨some 30, none, .slSl 16 (.s 28) (some (.s 29)) none none⟩,
 ⟨some 31, none, .call 168 [(.s 30)] []⟩,
 ⟨some 32, none, .buildSl 16 1 (bys (zeros 16)) [(0, 16, (.s 31))]⟩,
 ⟨some 33, none, .append 16 16 false none none 27 (.s 32)⟩,
 ⟨some 6, none, .mv true (.s 33)⟩]) (
 .seq (
 .region [0, 1, 6, 7] [] [
 ⟨some 34, none, .mv true (.s 0)⟩,
 ⟨some 35, none, .mv false (.s 8)⟩,
 ⟨some 36, none, .slSl 16 (.s 34) none (some (.s 35)) none⟩,
 ⟨some 0, none, .mv true (.s 36)⟩]) (
 .ghost (.keep [0, 1, 6, 7]) (.exit 1)))) (
 .ghost (.keep [0, 1, 6, 8]) .skip))) (
 f_merkle_ProvePrefix_r2)))
def f_merkle_ProvePrefix_l0 : ACode :=
 .seq (
 .seq (
 .region [0, 1, 6, 7, 20] [] [
 ⟨some 17, none, .mv false (.s 1)⟩,
 ⟨some 18, none, .mv false (.s 0)⟩,
 ⟨some 19, none, .len false (.s 18)⟩,
 ⟨some 20, none, .bin .lss (.s 17) (.s 19)⟩]) (
 .cond (.s 20) (
 .ghost (.keep [0, 1, 6, 7]) .skip) (
 .ghost (.keep [0, 6, 7]) (.exit 0)))) (
 f_merkle_ProvePrefix_r1)
def f_merkle_ProvePrefix_r4 : ACode :=
 .seq (
 .alt (
 .ghost (.thaw 6 906) (
 .region [6] [.norm [906], .freeze [906]] [
 ⟨some 57, none, .mv false (.s 6)⟩,
 ⟨some 58, none, .callw 161 none [(.s 57)] [(0, 906)] []⟩])) (
 .region [6] [] [
 ⟨some 57, none, .mv false (.s 6)⟩,
 ⟨some 58, none, .call 162 [(.s 57)] []⟩])) (
 .seq (
 .region [4, 5] [] [
 ⟨some 59, none, .mv true (.s 6)⟩,
 ⟨some 4, none, .mv true (.s 59)⟩,
 ⟨some 5, none, .mv false (.c (i64 0))⟩]) (
 .ret))
def f_merkle_ProvePrefix_r3 : ACode :=
 .seq (
 .seq (
 .region [0, 6, 51] [] [
 ⟨some 50, none, .mv false (.s 7)⟩,
 ⟨some 51, none, .un .not (.s 50)⟩]) (
 .cond (.s 51) (
 .region [6] [] [
 ⟨some 52, none, .mv true (.s 6)⟩,
 ⟨some 53, none, .mv true (.s 0)⟩,
 ⟨some 54, none, .call 168 [(.s 53)] []⟩,
 ⟨some 55, none, .buildSl 16 1 (bys (zeros 16)) [(0, 16, (.s 54))]⟩,
 ⟨some 56, none, .append 16 16 false none none 52 (.s 55)⟩,
 ⟨some 6, none, .mv true (.s 56)⟩]) (
 .ghost (.keep [6]) .skip))) (
 f_merkle_ProvePrefix_r4)
def f_merkle_ProvePrefix_r0 : ACode :=
 .seq (
 .region [0, 1, 6] [] [
 ⟨some 6, none, .mv true (.c (.sl (.own 16) none 0 []))⟩]) (
 .seq (
 .region [0, 1, 6, 7] [] [
 ⟨some 7, none, .mv false (.c (bo true))⟩]) (
 .seq (
 .block 0 (
 .loop f_merkle_ProvePrefix_l0)) (
 f_merkle_ProvePrefix_r3)))
def f_merkle_ProvePrefix : AFun :=
 { n := 2, wr := [0, 1], res := [.t 4, .t 5], body :=
 .seq (
 .region [0, 1] [] [
 ⟨some 4, none, .mv true (.c (.sl (.own 16) none 0 []))⟩,
 ⟨some 5, none, .mv false (.c (i64 0))⟩]) (
 .seq (
 .seq (
 .region [0, 1, 16] [] [
 ⟨some 9, none, .mv false (.s 1)⟩,
 ⟨some 10, none, .bin .lss (.s 9) (.c (i64 1))⟩,
 ⟨some 11, none, .mv false (.s 10)⟩,
 ⟨some 12, (some (11, false)), .mv false (.s 1)⟩,
 ⟨some 13, (some (11, false)), .mv false (.s 0)⟩,
 ⟨some 14, (some (11, false)), .len false (.s 13)⟩,
 ⟨some 15, (some (11, false)), .bin .gtr (.s 12) (.s 14)⟩,
 ⟨some 16, none, .pick (.s 11) (.c (bo true)) (.s 15)⟩]) (
 .cond (.s 16) (
 .seq (
 .region [4, 5] [] [
 ⟨some 4, none, .mv true (.c (.sl (.own 16) none 0 []))⟩,
 ⟨some 5, none, .mv false (.c (i64 11))⟩]) (
 .ret)) (
 .ghost (.keep [0, 1]) .skip))) (
 f_merkle_ProvePrefix_r0)) }

def f_merkle_Root_r0 : ACode :=
 .seq (
 .region [2, 3] [] [
 ⟨some 17, none, .mv false (.s 0)⟩,
 ⟨some 18, none, .len false (.s 17)⟩,
 ⟨some 19, none, .call 167 [(.s 18)] []⟩,
 ⟨some 3, none, .mv false (.s 19)⟩]) (
 .seq (
 .region [2] [.norm [2]] [
 ⟨some 20, none, .mv false (.s 0)⟩,
 ⟨some 21, none, .mv false (.s 3)⟩,
 ⟨some 22, none, .slSl 16 (.s 20) none (some (.s 21)) none⟩,
 ⟨some 23, none, .call 168 [(.s 22)] []⟩,
 ⟨some 24, none, .mv false (.s 0)⟩,
 ⟨some 25, none, .mv false (.s 3)⟩,
 ⟨some 26, none, .slSl 16 (.s 24) (some (.s 25)) none none⟩,
 ⟨some 27, none, .call 168 [(.s 26)] []⟩,
 ⟨some 28, none, .call 169 [(.s 23), (.s 27)] []⟩,
 ⟨some 29, none, .call 165 [(.s 28)] []⟩,
 ⟨none, none, .store (some 16) 2 false (.s 2) (.s 29)⟩]) (
 .ret))
def f_merkle_Root : AFun :=
 { n := 1, wr := [], res := [.cell 2 (some 16) 2], body :=
 .seq (
 .region [2] [.norm [2]] [
 ⟨some 2, none, .alloc 2 (bys (zeros 16))⟩]) (
 .seq (
 .seq (
 .region [2, 5] [] [
 ⟨some 4, none, .mv false (.s 0)⟩,
 ⟨some 5, none, .len false (.s 4)⟩]) (
 .block 0 (
 .seq (
 .region [2, 5, 6] [] [
 ⟨some 7, none, .bin .eql (.s 5) (.c (i64 0))⟩,
 ⟨some 6, none, .mv false (.s 7)⟩]) (
 .cond (.s 6) (
 .seq (
 .region [2] [.norm [2]] [
 ⟨some 8, none, .call 164 [(.c (u8 1)), (.c (.lit (.slice none 0 0)))] []⟩,
 ⟨some 9, none, .call 165 [(.s 8)] []⟩,
 ⟨none, none, .store (some 16) 2 false (.s 2) (.s 9)⟩]) (
 .ret)) (
 .seq (
 .region [2, 10] [] [
 ⟨some 11, none, .bin .eql (.s 5) (.c (i64 1))⟩,
 ⟨some 10, none, .mv false (.s 11)⟩]) (
 .cond (.s 10) (
 .seq (
 .region [2] [.norm [2]] [
 ⟨some 12, none, .mv false (.s 0)⟩,
 ⟨some 13, none, .idxSl 16 (.s 12) (.c (i64 0))⟩,
 ⟨some 14, none, .load (some 16) none false (.s 13)⟩,
 ⟨some 15, none, .call 166 [(.s 14)] []⟩,
 ⟨some 16, none, .call 165 [(.s 15)] []⟩,
 ⟨none, none, .store (some 16) 2 false (.s 2) (.s 16)⟩]) (
 .ret)) (
 .ghost (.keep [2]) .skip))))))) (
 f_merkle_Root_r0)) }

def f_merkle_Verify : AFun :=
 { n := 5, wr := [], res := [.t 10], body :=
 .seq (
 .region [5, 8] [.norm [5, 8]] [
 ⟨some 5, none, .box 5 (some 16) false (.s 0)⟩,
 ⟨some 8, none, .box 8 (some 16) false (.s 3)⟩,
 ⟨some 10, none, .mv false (.c (bo false))⟩]) (
 .seq (
 .region [5, 11] [.norm [5, 8]] [
 ⟨some 12, none, .mv false (.s 1)⟩,
 ⟨some 13, none, .mv false (.s 2)⟩,
 ⟨some 14, none, .load (some 16) (some 8) false (.s 8)⟩,
 ⟨some 15, none, .mv false (.s 4)⟩,
 ⟨some 16, none, .call 172 [(.s 12), (.s 13), (.s 14), (.s 15)] []⟩,
 ⟨some 11, none, .mv true (.s 16)⟩]) (
 .seq (
 .region [10] [.norm [5, 8]] [
 ⟨some 17, none, .mv false (.s 11)⟩,
 ⟨some 18, none, .eqnil true (.s 17) (.c (.lit (.slice none 0 0)))⟩,
 ⟨some 19, none, .mv false (.s 18)⟩,
 ⟨some 20, (some (19, true)), .mv false (.s 11)⟩,
 ⟨some 21, (some (19, true)), .mv false (.s 11)⟩,
 ⟨some 22, (some (19, true)), .len false (.s 21)⟩,
 ⟨some 23, (some (19, true)), .bin .sub (.s 22) (.c (i64 1))⟩,
 ⟨some 24, (some (19, true)), .idxSl 1 (.s 20) (.s 23)⟩,
 ⟨some 25, (some (19, true)), .load none none false (.s 24)⟩,
 ⟨some 26, (some (19, true)), .call 165 [(.s 25)] []⟩,
 ⟨some 27, (some (19, true)), .load (some 16) (some 5) false (.s 5)⟩,
 ⟨some 28, (some (19, true)), .eqF (ks8 16) false (.s 26) (.s 27)⟩,
 ⟨some 29, none, .pick (.s 19) (.s 28) (.c (bo false))⟩,
 ⟨some 10, none, .mv false (.s 29)⟩]) (
 .ret))) }


def f_merkle_Clash_r1 : ACode :=
 .seq (
 .block 1 (
 .seq (
 .region [15, 16, 17, 67] [.norm [8, 9]] [
 ⟨some 58, none, .mv false (.s 15)⟩,
 ⟨some 59, none, .mv false (.s 17)⟩,
 ⟨some 60, none, .idxSl 1 (.s 58) (.s 59)⟩,
 ⟨some 61, none, .load none none false (.s 60)⟩,
 ⟨some 62, none, .mv false (.s 16)⟩,
 ⟨some 63, none, .mv false (.s 17)⟩,
 ⟨some 64, none, .idxSl 1 (.s 62) (.s 63)⟩,
 ⟨some 65, none, .load none none false (.s 64)⟩,
 ⟨some 66, none, .call 177 [(.s 61), (.s 65)] []⟩,
 ⟨some 67, none, .un .not (.s 66)⟩]) (
 .cond (.s 67) (
 .seq (
 .region [12, 13, 14] [.norm [8, 9]] [
 ⟨some 68, none, .mv true (.s 15)⟩,
 ⟨some 69, none, .mv false (.s 17)⟩,
 ⟨some 70, none, .idxSl 1 (.s 68) (.s 69)⟩,
 ⟨some 71, none, .load none none false (.s 70)⟩,
 ⟨some 72, none, .mv true (.s 16)⟩,
 ⟨some 73, none, .mv false (.s 17)⟩,
 ⟨some 74, none, .idxSl 1 (.s 72) (.s 73)⟩,
 ⟨some 75, none, .load none none false (.s 74)⟩,
 ⟨some 12, none, .mv true (.s 71)⟩,
 ⟨some 13, none, .mv true (.s 75)⟩,
 ⟨some 14, none, .mv false (.c (bo true))⟩]) (
 .ret)) (
 .ghost (.keep [15, 16, 17]) .skip)))) (
 .region [15, 16, 17] [] [
 ⟨some 56, none, .mv false (.s 17)⟩,
 ⟨some 57, none, .bin .sub (.s 56) (.c (i64 1))⟩,
 ⟨some 17, none, .mv false (.s 57)⟩])
def f_merkle_Clash_l0 : ACode :=
 .seq (
 .seq (
 .region [15, 16, 17, 55] [] [
 ⟨some 54, none, .mv false (.s 17)⟩,
 ⟨some 55, none, .bin .geq (.s 54) (.c (i64 0))⟩]) (
 .cond (.s 55) (
 .ghost (.keep [15, 16, 17]) .skip) (
 .ghost (.keep []) (.exit 0)))) (
 f_merkle_Clash_r1)
def f_merkle_Clash_r2 : ACode :=
 .seq (
 .region [12, 13, 14] [] [
 ⟨some 12, none, .mv true (.c (.sl (.own 1) none 0 []))⟩,
 ⟨some 13, none, .mv true (.c (.sl (.own 1) none 0 []))⟩,
 ⟨some 14, none, .mv false (.c (bo false))⟩]) (
 .ret)
def f_merkle_Clash_r0 : ACode :=
 .seq (
 .seq (
 .region [15, 16, 17] [] [
 ⟨some 51, none, .mv false (.s 15)⟩,
 ⟨some 52, none, .len false (.s 51)⟩,
 ⟨some 53, none, .bin .sub (.s 52) (.c (i64 1))⟩,
 ⟨some 17, none, .mv false (.s 53)⟩]) (
 .block 0 (
 .loop f_merkle_Clash_l0))) (
 f_merkle_Clash_r2)
def f_merkle_Clash : AFun :=
 { n := 6, wr := [], res := [.t 12, .t 13, .t 14], body :=
 .seq (
 .region [8, 9] [.norm [8, 9]] [
 ⟨some 8, none, .box 8 (some 16) false (.s 2)⟩,
 ⟨some 9, none, .box 9 (some 16) false (.s 3)⟩,
 ⟨some 12, none, .mv true (.c (.sl (.own 1) none 0 []))⟩,
 ⟨some 13, none, .mv true (.c (.sl (.own 1) none 0 []))⟩,
 ⟨some 14, none, .mv false (.c (bo false))⟩]) (
 .seq (
 .region [15, 16] [.norm [8, 9]] [
 ⟨some 18, none, .mv false (.s 0)⟩,
 ⟨some 19, none, .mv false (.s 1)⟩,
 ⟨some 20, none, .load (some 16) (some 8) false (.s 8)⟩,
 ⟨some 21, none, .mv false (.s 4)⟩,
 ⟨some 22, none, .call 172 [(.s 18), (.s 19), (.s 20), (.s 21)] []⟩,
 ⟨some 23, none, .mv false (.s 0)⟩,
 ⟨some 24, none, .mv false (.s 1)⟩,
 ⟨some 25, none, .load (some 16) (some 9) false (.s 9)⟩,
 ⟨some 26, none, .mv false (.s 5)⟩,
 ⟨some 27, none, .call 172 [(.s 23), (.s 24), (.s 25), (.s 26)] []⟩,
 ⟨some 15, none, .mv true (.s 22)⟩,
 ⟨some 16, none, .mv true (.s 27)⟩]) (
 .seq (
 .seq (
 .region [15, 16, 50] [.norm [8, 9]] [
 ⟨some 28, none, .mv false (.s 15)⟩,
 ⟨some 29, none, .eqnil false (.s 28) (.c (.lit (.slice none 0 0)))⟩,
 ⟨some 30, none, .mv false (.s 29)⟩,
 ⟨some 31, (some (30, false)), .mv false (.s 16)⟩,
 ⟨some 32, (some (30, false)), .eqnil false (.s 31) (.c (.lit (.slice none 0 0)))⟩,
 ⟨some 33, none, .pick (.s 30) (.c (bo true)) (.s 32)⟩,
 ⟨some 34, none, .mv false (.s 33)⟩,
 ⟨some 35, (some (34, false)), .mv false (.s 15)⟩,
 ⟨some 36, (some (34, false)), .mv false (.s 15)⟩,
 ⟨some 37, (some (34, false)), .len false (.s 36)⟩,
 ⟨some 38, (some (34, false)), .bin .sub (.s 37) (.c (i64 1))⟩,
 ⟨some 39, (some (34, false)), .idxSl 1 (.s 35) (.s 38)⟩,
 ⟨some 40, (some (34, false)), .load none none false (.s 39)⟩,
 ⟨some 41, (some (34, false)), .call 165 [(.s 40)] []⟩,
 ⟨some 42, (some (34, false)), .mv false (.s 16)⟩,
 ⟨some 43, (some (34, false)), .mv false (.s 16)⟩,
 ⟨some 44, (some (34, false)), .len false (.s 43)⟩,
 ⟨some 45, (some (34, false)), .bin .sub (.s 44) (.c (i64 1))⟩,
 ⟨some 46, (some (34, false)), .idxSl 1 (.s 42) (.s 45)⟩,
 ⟨some 47, (some (34, false)), .load none none false (.s 46)⟩,
 ⟨some 48, (some (34, false)), .call 165 [(.s 47)] []⟩,
 ⟨some 49, (some (34, false)), .eqF (ks8 16) true (.s 41) (.s 48)⟩,
 ⟨some 50, none, .pick (.s 34) (.c (bo true)) (.s 49)⟩]) (
 .cond (.s 50) (
 .seq (
 .region [12, 13, 14] [] [
 ⟨some 12, none, .mv true (.c (.sl (.own 1) none 0 []))⟩,
 ⟨some 13, none, .mv true (.c (.sl (.own 1) none 0 []))⟩,
 ⟨some 14, none, .mv false (.c (bo false))⟩]) (
 .ret)) (
 .ghost (.keep [15, 16]) .skip))) (
 f_merkle_Clash_r0))) }



def f_merkle_descend_merkle_Prove_1_r1 : ACode :=
 .seq (
 .region [0, 1, 2, 6, 7] [.norm [10, 11]] [
 ⟨some 28, none, .mv false (.s 2)⟩,
 ⟨some 29, none, .mv false (.s 6)⟩,
 ⟨some 30, none, .mv false (.s 7)⟩,
 ⟨some 31, none, .bin .add (.s 29) (.s 30)⟩,
 ⟨some 32, none, .mv false (.s 0)⟩,
 ⟨some 33, none, .mv false (.s 7)⟩,
 ⟨some 34, none, .bin .sub (.s 32) (.s 33)⟩,
 ⟨some 35, none, .mv false (.s 6)⟩,
 ⟨some 36, none, .mv false (.s 7)⟩,
 ⟨some 37, none, .callm 159 (some (.s 28)) [(.s 31), (.s 34), (.s 35), (.s 36)] [(4, 10), (5, 11)] []⟩]) (
 .region [0, 1, 2, 6] [] [
 ⟨some 38, none, .mv false (.s 6)⟩,
 ⟨some 39, none, .mv false (.s 7)⟩,
 ⟨some 40, none, .bin .add (.s 38) (.s 39)⟩,
 ⟨some 41, none, .mv false (.s 0)⟩,
 ⟨some 42, none, .mv false (.s 7)⟩,
 ⟨some 43, none, .bin .sub (.s 41) (.s 42)⟩,
 ⟨some 6, none, .mv false (.s 40)⟩,
 ⟨some 0, none, .mv false (.s 43)⟩])
def f_merkle_descend_merkle_Prove_1_r0 : ACode :=
 .block 1 (
 .seq (
 .region [0, 1, 2, 6, 7] [] [
 ⟨some 10, none, .mv false (.s 0)⟩,
 ⟨some 11, none, .call 167 [(.s 10)] []⟩,
 ⟨some 7, none, .mv false (.s 11)⟩]) (
 .seq (
 .seq (
 .region [0, 1, 2, 6, 7, 16] [] [
 ⟨some 12, none, .mv false (.s 1)⟩,
 ⟨some 13, none, .mv false (.s 6)⟩,
 ⟨some 14, none, .bin .sub (.s 12) (.s 13)⟩,
 ⟨some 15, none, .mv false (.s 7)⟩,
 ⟨some 16, none, .bin .lss (.s 14) (.s 15)⟩]) (
 .cond (.s 16) (
 .seq (
 .region [1, 2, 6, 7] [.norm [10, 11]] [
 ⟨some 17, none, .mv false (.s 2)⟩,
 ⟨some 18, none, .mv false (.s 6)⟩,
 ⟨some 19, none, .mv false (.s 7)⟩,
 ⟨some 20, none, .mv false (.s 6)⟩,
 ⟨some 21, none, .mv false (.s 7)⟩,
 ⟨some 22, none, .bin .add (.s 20) (.s 21)⟩,
 ⟨some 23, none, .mv false (.s 0)⟩,
 ⟨some 24, none, .mv false (.s 7)⟩,
 ⟨some 25, none, .bin .sub (.s 23) (.s 24)⟩,
 ⟨some 26, none, .callm 159 (some (.s 17)) [(.s 18), (.s 19), (.s 22), (.s 25)] [(4, 10), (5, 11)] []⟩]) (
 .seq (
 .region [0, 1, 2, 6] [] [
 ⟨some 27, none, .mv false (.s 7)⟩,
 ⟨some 0, none, .mv false (.s 27)⟩]) (
 .ghost (.keep [0, 1, 2, 6]) (.exit 1)))) (
 .ghost (.keep [0, 1, 2, 6, 7]) .skip))) (
 f_merkle_descend_merkle_Prove_1_r1)))
def f_merkle_descend_merkle_Prove_1_l0 : ACode :=
 .seq (
 .seq (
 .region [0, 1, 2, 6, 9] [] [
 ⟨some 8, none, .mv false (.s 0)⟩,
 ⟨some 9, none, .bin .gtr (.s 8) (.c (i64 1))⟩]) (
 .cond (.s 9) (
 .ghost (.keep [0, 1, 2, 6]) .skip) (
 .ghost (.keep [2]) (.exit 0)))) (
 f_merkle_descend_merkle_Prove_1_r0)
def f_merkle_descend_merkle_Prove_1 : AFun :=
 { n := 3, wr := [], res := [], body :=
 .seq (
 .region [0, 1, 2, 6] [] [
 ⟨some 6, none, .mv false (.c (i64 0))⟩]) (
 .block 0 (
 .loop f_merkle_descend_merkle_Prove_1_l0)) }

def f_merkle_descend_merkle_inputs_1_r1 : ACode :=
 .seq (
 .region [0, 1, 2, 6, 7] [.norm [10]] [
 ⟨some 28, none, .mv false (.s 2)⟩,
 ⟨some 29, none, .mv false (.s 6)⟩,
 ⟨some 30, none, .mv false (.s 7)⟩,
 ⟨some 31, none, .bin .add (.s 29) (.s 30)⟩,
 ⟨some 32, none, .mv false (.s 0)⟩,
 ⟨some 33, none, .mv false (.s 7)⟩,
 ⟨some 34, none, .bin .sub (.s 32) (.s 33)⟩,
 ⟨some 35, none, .mv false (.s 6)⟩,
 ⟨some 36, none, .mv false (.s 7)⟩,
 ⟨some 37, none, .callm 186 (some (.s 28)) [(.s 31), (.s 34), (.s 35), (.s 36)] [(4, 10)] []⟩]) (
 .region [0, 1, 2, 6] [] [
 ⟨some 38, none, .mv false (.s 6)⟩,
 ⟨some 39, none, .mv false (.s 7)⟩,
 ⟨some 40, none, .bin .add (.s 38) (.s 39)⟩,
 ⟨some 41, none, .mv false (.s 0)⟩,
 ⟨some 42, none, .mv false (.s 7)⟩,
 ⟨some 43, none, .bin .sub (.s 41) (.s 42)⟩,
 ⟨some 6, none, .mv false (.s 40)⟩,
 ⟨some 0, none, .mv false (.s 43)⟩])
def f_merkle_descend_merkle_inputs_1_r0 : ACode :=
 .block 1 (
 .seq (
 .region [0, 1, 2, 6, 7] [] [
 ⟨some 10, none, .mv false (.s 0)⟩,
 ⟨some 11, none, .call 167 [(.s 10)] []⟩,
 ⟨some 7, none, .mv false (.s 11)⟩]) (
 .seq (
 .seq (
 .region [0, 1, 2, 6, 7, 16] [] [
 ⟨some 12, none, .mv false (.s 1)⟩,
 ⟨some 13, none, .mv false (.s 6)⟩,
 ⟨some 14, none, .bin .sub (.s 12) (.s 13)⟩,
 ⟨some 15, none, .mv false (.s 7)⟩,
 ⟨some 16, none, .bin .lss (.s 14) (.s 15)⟩]) (
 .cond (.s 16) (
 .seq (
 .region [1, 2, 6, 7] [.norm [10]] [
 ⟨some 17, none, .mv false (.s 2)⟩,
 ⟨some 18, none, .mv false (.s 6)⟩,
 ⟨some 19, none, .mv false (.s 7)⟩,
 ⟨some 20, none, .mv false (.s 6)⟩,
 ⟨some 21, none, .mv false (.s 7)⟩,
 ⟨some 22, none, .bin .add (.s 20) (.s 21)⟩,
 ⟨some 23, none, .mv false (.s 0)⟩,
 ⟨some 24, none, .mv false (.s 7)⟩,
 ⟨some 25, none, .bin .sub (.s 23) (.s 24)⟩,
 ⟨some 26, none, .callm 186 (some (.s 17)) [(.s 18), (.s 19), (.s 22), (.s 25)] [(4, 10)] []⟩]) (
 .seq (
 .region [0, 1, 2, 6] [] [
 ⟨some 27, none, .mv false (.s 7)⟩,
 ⟨some 0, none, .mv false (.s 27)⟩]) (
 .ghost (.keep [0, 1, 2, 6]) (.exit 1)))) (
 .ghost (.keep [0, 1, 2, 6, 7]) .skip))) (
 f_merkle_descend_merkle_inputs_1_r1)))
def f_merkle_descend_merkle_inputs_1_l0 : ACode :=
 .seq (
 .seq (
 .region [0, 1, 2, 6, 9] [] [
 ⟨some 8, none, .mv false (.s 0)⟩,
 ⟨some 9, none, .bin .gtr (.s 8) (.c (i64 1))⟩]) (
 .cond (.s 9) (
 .ghost (.keep [0, 1, 2, 6]) .skip) (
 .ghost (.keep [2]) (.exit 0)))) (
 f_merkle_descend_merkle_inputs_1_r0)
def f_merkle_descend_merkle_inputs_1 : AFun :=
 { n := 3, wr := [], res := [], body :=
 .seq (
 .region [0, 1, 2, 6] [] [
 ⟨some 6, none, .mv false (.c (i64 0))⟩]) (
 .block 0 (
 .loop f_merkle_descend_merkle_inputs_1_l0)) }

def f_merkle_Prove_1 : AFun :=
 { n := 6, wr := [], res := [], body :=
 .region [4, 5] [.norm [4, 5]] [
 ⟨some 10, none, .load none (some 4) true (.s 4)⟩,
 ⟨some 11, none, .load none (some 5) false (.s 5)⟩,
 ⟨some 12, none, .mv false (.s 2)⟩,
 ⟨some 13, none, .mv false (.s 2)⟩,
 ⟨some 14, none, .mv false (.s 3)⟩,
 ⟨some 15, none, .bin .add (.s 13) (.s 14)⟩,
 ⟨some 16, none, .slSl 16 (.s 11) (some (.s 12)) (some (.s 15)) none⟩,
 ⟨some 17, none, .call 168 [(.s 16)] []⟩,
 ⟨some 18, none, .buildSl 16 1 (bys (zeros 16)) [(0, 16, (.s 17))]⟩,
 ⟨some 19, none, .append 16 16 false none none 10 (.s 18)⟩,
 ⟨none, none, .store none 4 true (.s 4) (.s 19)⟩] }

def f_slices_Reverse_r0 : ACode :=
 .seq (
 .block 1 (
 .region [0, 2, 3] [.norm [0]] [
 ⟨some 14, none, .mv false (.s 0)⟩,
 ⟨some 15, none, .mv false (.s 2)⟩,
 ⟨some 16, none, .mv false (.s 0)⟩,
 ⟨some 17, none, .mv false (.s 3)⟩,
 ⟨some 18, none, .mv false (.s 0)⟩,
 ⟨some 19, none, .mv false (.s 3)⟩,
 ⟨some 20, none, .idxSl 16 (.s 18) (.s 19)⟩,
 ⟨some 21, none, .load (some 16) (some 0) false (.s 20)⟩,
 ⟨some 22, none, .mv false (.s 0)⟩,
 ⟨some 23, none, .mv false (.s 2)⟩,
 ⟨some 24, none, .idxSl 16 (.s 22) (.s 23)⟩,
 ⟨some 25, none, .load (some 16) (some 0) false (.s 24)⟩,
 ⟨some 26, none, .idxSl 16 (.s 14) (.s 15)⟩,
 ⟨none, none, .store (some 16) 0 false (.s 26) (.s 21)⟩,
 ⟨some 27, none, .idxSl 16 (.s 16) (.s 17)⟩,
 ⟨none, none, .store (some 16) 0 false (.s 27) (.s 25)⟩])) (
 .region [0, 2, 3] [] [
 ⟨some 10, none, .mv false (.s 2)⟩,
 ⟨some 11, none, .bin .add (.s 10) (.c (i64 1))⟩,
 ⟨some 12, none, .mv false (.s 3)⟩,
 ⟨some 13, none, .bin .sub (.s 12) (.c (i64 1))⟩,
 ⟨some 2, none, .mv false (.s 11)⟩,
 ⟨some 3, none, .mv false (.s 13)⟩])
def f_slices_Reverse_l0 : ACode :=
 .seq (
 .seq (
 .region [0, 2, 3, 9] [] [
 ⟨some 7, none, .mv false (.s 2)⟩,
 ⟨some 8, none, .mv false (.s 3)⟩,
 ⟨some 9, none, .bin .lss (.s 7) (.s 8)⟩]) (
 .cond (.s 9) (
 .ghost (.keep [0, 2, 3]) .skip) (
 .ghost (.keep [0]) (.exit 0)))) (
 f_slices_Reverse_r0)
def f_slices_Reverse : AFun :=
 { n := 1, wr := [], res := [], body :=
 .seq (
 .region [0, 2, 3] [] [
 ⟨some 4, none, .mv false (.s 0)⟩,
 ⟨some 5, none, .len false (.s 4)⟩,
 ⟨some 6, none, .bin .sub (.s 5) (.c (i64 1))⟩,
 ⟨some 2, none, .mv false (.c (i64 0))⟩,
 ⟨some 3, none, .mv false (.s 6)⟩]) (
 .block 0 (
 .loop f_slices_Reverse_l0)) }

def f_slices_Reverse_empty_r0 : ACode :=
 .seq (
 .block 1 (
 .region [2, 3] [] [
 ⟨some 14, none, .mv false (.s 0)⟩,
 ⟨some 15, none, .mv false (.s 2)⟩,
 ⟨some 16, none, .mv false (.s 0)⟩,
 ⟨some 17, none, .mv false (.s 3)⟩,
 ⟨some 18, none, .mv false (.s 0)⟩,
 ⟨some 19, none, .mv false (.s 3)⟩,
 ⟨some 20, none, .idxSl 16 (.s 18) (.s 19)⟩,
 ⟨some 21, none, .load (some 16) none false (.s 20)⟩,
 ⟨some 22, none, .mv false (.s 0)⟩,
 ⟨some 23, none, .mv false (.s 2)⟩,
 ⟨some 24, none, .idxSl 16 (.s 22) (.s 23)⟩,
 ⟨some 25, none, .load (some 16) none false (.s 24)⟩,
 ⟨some 26, none, .idxSl 16 (.s 14) (.s 15)⟩,
 ⟨none, none, .unsup⟩,
 ⟨some 27, none, .idxSl 16 (.s 16) (.s 17)⟩,
 ⟨none, none, .unsup⟩])) (
 .region [2, 3] [] [
 ⟨some 10, none, .mv false (.s 2)⟩,
 ⟨some 11, none, .bin .add (.s 10) (.c (i64 1))⟩,
 ⟨some 12, none, .mv false (.s 3)⟩,
 ⟨some 13, none, .bin .sub (.s 12) (.c (i64 1))⟩,
 ⟨some 2, none, .mv false (.s 11)⟩,
 ⟨some 3, none, .mv false (.s 13)⟩])
def f_slices_Reverse_empty_l0 : ACode :=
 .seq (
 .seq (
 .region [2, 3, 9] [] [
 ⟨some 7, none, .mv false (.s 2)⟩,
 ⟨some 8, none, .mv false (.s 3)⟩,
 ⟨some 9, none, .bin .lss (.s 7) (.s 8)⟩]) (
 .cond (.s 9) (
 .ghost (.keep [2, 3]) .skip) (
 .ghost (.keep []) (.exit 0)))) (
 f_slices_Reverse_empty_r0)
def f_slices_Reverse_empty : AFun :=
 { n := 1, wr := [], res := [], body :=
 .seq (
 .region [2, 3] [] [
 ⟨some 4, none, .mv false (.s 0)⟩,
 ⟨some 5, none, .len false (.s 4)⟩,
 ⟨some 6, none, .bin .sub (.s 5) (.c (i64 1))⟩,
 ⟨some 2, none, .mv false (.c (i64 0))⟩,
 ⟨some 3, none, .mv false (.s 6)⟩]) (
 .block 0 (
 .loop f_slices_Reverse_empty_l0)) }

def f_merkle_split : AFun :=
 { n := 1, wr := [], res := [.t 2], body :=
 .seq (
 .region [] [] [
 ⟨some 2, none, .mv false (.c (i64 0))⟩]) (
 .seq (
 .region [2] [] [
 ⟨some 3, none, .mv false (.s 0)⟩,
 ⟨some 4, none, .bin .sub (.s 3) (.c (i64 1))⟩,
 ⟨some 5, none, .toInt .u64 (.s 4)⟩,
 ⟨some 6, none, .call 170 [(.s 5)] []⟩,
 ⟨some 7, none, .bin .sub (.s 6) (.c (i64 1))⟩,
 ⟨some 8, none, .bin .shl (.c (i64 1)) (.s 7)⟩,
 ⟨some 2, none, .mv false (.s 8)⟩]) (
 .ret)) }

def f_merkle_short : AFun :=
 { n := 1, wr := [], res := [.cell 2 (some 16) 2], body :=
 .seq (
 .region [2] [.norm [2]] [
 ⟨some 2, none, .alloc 2 (bys (zeros 16))⟩]) (
 .seq (
 .region [2, 3] [.norm [2, 3]] [
 ⟨some 4, none, .mv false (.s 0)⟩,
 ⟨some 5, none, .call 3 [(.s 4)] []⟩,
 ⟨some 3, none, .alloc 3 (bys (zeros 32))⟩,
 ⟨none, none, .store (some 32) 3 false (.s 3) (.s 5)⟩]) (
 .seq (
 .region [2] [.norm [2, 3]] [
 ⟨some 6, none, .slArr 32 1 (.s 3) none (some (.c (i64 16))) none⟩,
 ⟨some 7, none, .s2ap 16 (.s 6)⟩,
 ⟨some 8, none, .load (some 16) (some 3) false (.s 7)⟩,
 ⟨none, none, .store (some 16) 2 false (.s 2) (.s 8)⟩]) (
 .ret))) }

def f_merkle_input_r0 : ACode :=
 .seq (
 .block 1 (
 .seq (
 .region [5, 7, 10, 11, 12] [.norm [7]] [
 ⟨some 14, none, .idxSl 16 (.s 10) (.s 12)⟩,
 ⟨some 15, none, .load (some 16) none false (.s 14)⟩,
 ⟨some 7, none, .alloc 7 (bys (zeros 16))⟩,
 ⟨none, none, .store (some 16) 7 false (.s 7) (.s 15)⟩]) (
 .region [5, 10, 11, 12] [] [
 ⟨some 16, none, .mv true (.s 5)⟩,
 ⟨some 17, none, .slArr 16 1 (.s 7) none none none⟩,
 ⟨some 18, none, .toStr (some 7) (.s 17)⟩,
 ⟨some 19, none, .call 7 [(.s 18)] []⟩,
 ⟨some 20, none, .append 1 1 false (some false) none 16 (.s 19)⟩,
 ⟨some 5, none, .mv true (.s 20)⟩]))) (
 .region [5, 10, 11, 12] [.drop [7]] [
 ⟨some 21, none, .bin .add (.s 12) (.c (i64 1))⟩,
 ⟨some 12, none, .mv false (.s 21)⟩])
def f_merkle_input_l0 : ACode :=
 .seq (
 .region [5, 10, 11, 12, 13] [] [
 ⟨some 13, none, .bin .lss (.s 12) (.s 11)⟩]) (
 .seq (
 .cond (.s 13) (
 .ghost (.keep [5, 10, 11, 12]) .skip) (
 .ghost (.keep [5]) (.exit 0))) (
 f_merkle_input_r0))
def f_merkle_input_r1 : ACode :=
 .seq (
 .region [4] [] [
 ⟨some 22, none, .mv true (.s 5)⟩,
 ⟨some 4, none, .mv true (.s 22)⟩]) (
 .ret)
def f_merkle_input : AFun :=
 { n := 2, wr := [], res := [.t 4], body :=
 .seq (
 .region [] [] [
 ⟨some 4, none, .mv true (.c (.sl (.own 1) none 0 []))⟩]) (
 .seq (
 .region [5] [] [
 ⟨some 8, none, .mv false (.s 0)⟩,
 ⟨some 9, none, .buildSl 1 1 [u8 0] [(0, 1, (.s 8))]⟩,
 ⟨some 5, none, .mv true (.s 9)⟩]) (
 .seq (
 .seq (
 .region [5, 10, 11, 12] [] [
 ⟨some 10, none, .mv false (.s 1)⟩,
 ⟨some 11, none, .len false (.s 10)⟩,
 ⟨some 12, none, .mv false (.c (i64 0))⟩]) (
 .block 0 (
 .loop f_merkle_input_l0))) (
 f_merkle_input_r1))) }

def f_merkle_leaf : AFun :=
 { n := 1, wr := [], res := [.t 2], body :=
 .seq (
 .region [1] [.norm [1]] [
 ⟨some 1, none, .box 1 (some 16) false (.s 0)⟩,
 ⟨some 2, none, .mv true (.c (.sl (.own 1) none 0 []))⟩]) (
 .seq (
 .region [2] [.norm [1]] [
 ⟨some 3, none, .load (some 16) (some 1) false (.s 1)⟩,
 ⟨some 4, none, .buildSl 16 1 (bys (zeros 16)) [(0, 16, (.s 3))]⟩,
 ⟨some 5, none, .call 164 [(.c (u8 1)), (.s 4)] []⟩,
 ⟨some 2, none, .mv true (.s 5)⟩]) (
 .ret)) }

def f_merkle_node : AFun :=
 { n := 2, wr := [], res := [.t 4], body :=
 .seq (
 .region [2, 3] [.norm [2, 3]] [
 ⟨some 2, none, .box 2 (some 16) false (.s 0)⟩,
 ⟨some 3, none, .box 3 (some 16) false (.s 1)⟩,
 ⟨some 4, none, .mv true (.c (.sl (.own 1) none 0 []))⟩]) (
 .seq (
 .region [4] [.norm [2, 3]] [
 ⟨some 5, none, .load (some 16) (some 2) false (.s 2)⟩,
 ⟨some 6, none, .load (some 16) (some 3) false (.s 3)⟩,
 ⟨some 7, none, .buildSl 16 2 (bys (zeros 32)) [(0, 16, (.s 5)), (16, 16, (.s 6))]⟩,
 ⟨some 8, none, .call 164 [(.c (u8 2)), (.s 7)] []⟩,
 ⟨some 4, none, .mv true (.s 8)⟩]) (
 .ret)) }

def f_merkle_inputs_r2 : ACode :=
 .seq (
 .block 1 (
 .seq (
 .region [9, 10, 11, 12, 35, 36, 37] [.norm [6, 9, 12]] [
 ⟨some 39, none, .mv false (.s 37)⟩,
 ⟨some 40, none, .idxSl 16 (.s 35) (.s 37)⟩,
 ⟨some 41, none, .load (some 16) none false (.s 40)⟩,
 ⟨some 12, none, .alloc 12 (bys (zeros 16))⟩,
 ⟨some 11, none, .mv false (.s 39)⟩,
 ⟨none, none, .store (some 16) 12 false (.s 12) (.s 41)⟩]) (
 .seq (
 .region [9, 10, 11, 12, 13, 35, 36, 37] [.norm [6, 9, 12, 13]] [
 ⟨some 42, none, .mv false (.s 10)⟩,
 ⟨some 43, none, .mv false (.s 11)⟩,
 ⟨some 44, none, .idxSl 1 (.s 42) (.s 43)⟩,
 ⟨some 45, none, .load none none false (.s 44)⟩,
 ⟨some 46, none, .call 165 [(.s 45)] []⟩,
 ⟨some 13, none, .alloc 13 (bys (zeros 16))⟩,
 ⟨none, none, .store (some 16) 13 false (.s 13) (.s 46)⟩]) (
 .seq (
 .region [9, 10, 12, 13, 35, 36, 37, 50] [.norm [6, 9, 12, 13]] [
 ⟨some 47, none, .load none (some 9) false (.s 9)⟩,
 ⟨some 48, none, .mv false (.s 11)⟩,
 ⟨some 49, none, .idxSl 1 (.s 47) (.s 48)⟩,
 ⟨some 50, none, .load none none false (.s 49)⟩]) (
 .cond (.s 50) (
 .region [9, 10, 35, 36, 37] [.norm [6, 9, 12, 13]] [
 ⟨some 51, none, .mv true (.s 10)⟩,
 ⟨some 52, none, .load (some 16) (some 12) false (.s 12)⟩,
 ⟨some 53, none, .load (some 16) (some 13) false (.s 13)⟩,
 ⟨some 54, none, .call 169 [(.s 52), (.s 53)] []⟩,
 ⟨some 55, none, .buildSl 1 1 [.sl .plain none 0 []] [(0, 1, (.s 54))]⟩,
 ⟨some 56, none, .append 1 24 false (some false) none 51 (.s 55)⟩,
 ⟨some 10, none, .mv true (.s 56)⟩]) (
 .region [9, 10, 35, 36, 37] [.norm [6, 9, 12, 13]] [
 ⟨some 57, none, .mv true (.s 10)⟩,
 ⟨some 58, none, .load (some 16) (some 13) false (.s 13)⟩,
 ⟨some 59, none, .load (some 16) (some 12) false (.s 12)⟩,
 ⟨some 60, none, .call 169 [(.s 58), (.s 59)] []⟩,
 ⟨some 61, none, .buildSl 1 1 [.sl .plain none 0 []] [(0, 1, (.s 60))]⟩,
 ⟨some 62, none, .append 1 24 false (some false) none 57 (.s 61)⟩,
 ⟨some 10, none, .mv true (.s 62)⟩])))))) (
 .region [9, 10, 35, 36, 37] [.drop [12, 13]] [
 ⟨some 63, none, .bin .add (.s 37) (.c (i64 1))⟩,
 ⟨some 37, none, .mv false (.s 63)⟩])
def f_merkle_inputs_l0 : ACode :=
 .seq (
 .region [9, 10, 35, 36, 37, 38] [] [
 ⟨some 38, none, .bin .lss (.s 37) (.s 36)⟩]) (
 .seq (
 .cond (.s 38) (
 .ghost (.keep [9, 10, 35, 36, 37]) .skip) (
 .ghost (.keep [10]) (.exit 0))) (
 f_merkle_inputs_r2))
def f_merkle_inputs_r3 : ACode :=
 .seq (
 .region [8] [] [
 ⟨some 64, none, .mv true (.s 10)⟩,
 ⟨some 8, none, .mv true (.s 64)⟩]) (
 .ret)
def f_merkle_inputs_r1 : ACode :=
 .seq (
 .alt (
 .ghost (.thawB 9 0 930) (
 .region [6, 9] [.norm [6, 9, 930], .freeze [930]] [
 ⟨some 30, none, .load none (some 9) false (.s 9)⟩,
 ⟨some 31, none, .callw 174 none [(.s 30)] [(0, 930)] []⟩])) (
 .region [6, 9] [.norm [6, 9]] [
 ⟨some 30, none, .load none (some 9) false (.s 9)⟩,
 ⟨some 31, none, .call 175 [(.s 30)] []⟩])) (
 .seq (
 .region [9, 10] [.norm [6, 9]] [
 ⟨some 32, none, .load (some 16) (some 6) false (.s 6)⟩,
 ⟨some 33, none, .call 166 [(.s 32)] []⟩,
 ⟨some 34, none, .buildSl 1 1 [.sl .plain none 0 []] [(0, 1, (.s 33))]⟩,
 ⟨some 10, none, .mv true (.s 34)⟩]) (
 .seq (
 .seq (
 .region [9, 10, 35, 36, 37] [] [
 ⟨some 35, none, .mv false (.s 3)⟩,
 ⟨some 36, none, .len false (.s 35)⟩,
 ⟨some 37, none, .mv false (.c (i64 0))⟩]) (
 .block 0 (
 .loop f_merkle_inputs_l0))) (
 f_merkle_inputs_r3)))
def f_merkle_inputs_r0 : ACode :=
 .seq (
 .region [6, 9] [.norm [6, 9]] [
 ⟨some 9, none, .alloc 9 [.sl (.own 1) none 0 []]⟩]) (
 .seq (
 .region [6, 9] [.norm [6, 9]] [
 ⟨some 21, none, .mv false (.s 0)⟩,
 ⟨some 22, none, .mv false (.s 1)⟩,
 ⟨some 23, none, .mkfn 186 [] [(.s 9)]⟩,
 ⟨some 24, none, .callw 187 none [(.s 21), (.s 22), (.s 23)] [(10, 9)] []⟩]) (
 .seq (
 .seq (
 .region [6, 9, 29] [.norm [6, 9]] [
 ⟨some 25, none, .load none (some 9) false (.s 9)⟩,
 ⟨some 26, none, .len false (.s 25)⟩,
 ⟨some 27, none, .mv false (.s 3)⟩,
 ⟨some 28, none, .len false (.s 27)⟩,
 ⟨some 29, none, .bin .neq (.s 26) (.s 28)⟩]) (
 .cond (.s 29) (
 .seq (
 .region [8] [] [
 ⟨some 8, none, .mv true (.c (.sl (.own 1) (some true) 0 []))⟩]) (
 .ret)) (
 .ghost (.keep [6, 9]) .skip))) (
 f_merkle_inputs_r1)))
def f_merkle_inputs : AFun :=
 { n := 4, wr := [], res := [.t 8], body :=
 .seq (
 .region [6] [.norm [6]] [
 ⟨some 6, none, .box 6 (some 16) false (.s 2)⟩,
 ⟨some 8, none, .mv true (.c (.sl (.own 1) (some true) 0 []))⟩]) (
 .seq (
 .seq (
 .region [6, 20] [] [
 ⟨some 14, none, .mv false (.s 1)⟩,
 ⟨some 15, none, .bin .lss (.s 14) (.c (i64 0))⟩,
 ⟨some 16, none, .mv false (.s 15)⟩,
 ⟨some 17, (some (16, false)), .mv false (.s 1)⟩,
 ⟨some 18, (some (16, false)), .mv false (.s 0)⟩,
 ⟨some 19, (some (16, false)), .bin .geq (.s 17) (.s 18)⟩,
 ⟨some 20, none, .pick (.s 16) (.c (bo true)) (.s 19)⟩]) (
 .cond (.s 20) (
 .seq (
 .region [8] [] [
 ⟨some 8, none, .mv true (.c (.sl (.own 1) (some true) 0 []))⟩]) (
 .ret)) (
 .ghost (.keep [6]) .skip))) (
 f_merkle_inputs_r0)) }

def f_slices_Reverse_bool_r0 : ACode :=
 .seq (
 .block 1 (
 .region [0, 2, 3] [.norm [0]] [
 ⟨some 14, none, .mv false (.s 0)⟩,
 ⟨some 15, none, .mv false (.s 2)⟩,
 ⟨some 16, none, .mv false (.s 0)⟩,
 ⟨some 17, none, .mv false (.s 3)⟩,
 ⟨some 18, none, .mv false (.s 0)⟩,
 ⟨some 19, none, .mv false (.s 3)⟩,
 ⟨some 20, none, .idxSl 1 (.s 18) (.s 19)⟩,
 ⟨some 21, none, .load none (some 0) false (.s 20)⟩,
 ⟨some 22, none, .mv false (.s 0)⟩,
 ⟨some 23, none, .mv false (.s 2)⟩,
 ⟨some 24, none, .idxSl 1 (.s 22) (.s 23)⟩,
 ⟨some 25, none, .load none (some 0) false (.s 24)⟩,
 ⟨some 26, none, .idxSl 1 (.s 14) (.s 15)⟩,
 ⟨none, none, .store none 0 false (.s 26) (.s 21)⟩,
 ⟨some 27, none, .idxSl 1 (.s 16) (.s 17)⟩,
 ⟨none, none, .store none 0 false (.s 27) (.s 25)⟩])) (
 .region [0, 2, 3] [] [
 ⟨some 10, none, .mv false (.s 2)⟩,
 ⟨some 11, none, .bin .add (.s 10) (.c (i64 1))⟩,
 ⟨some 12, none, .mv false (.s 3)⟩,
 ⟨some 13, none, .bin .sub (.s 12) (.c (i64 1))⟩,
 ⟨some 2, none, .mv false (.s 11)⟩,
 ⟨some 3, none, .mv false (.s 13)⟩])
def f_slices_Reverse_bool_l0 : ACode :=
 .seq (
 .seq (
 .region [0, 2, 3, 9] [] [
 ⟨some 7, none, .mv false (.s 2)⟩,
 ⟨some 8, none, .mv false (.s 3)⟩,
 ⟨some 9, none, .bin .lss (.s 7) (.s 8)⟩]) (
 .cond (.s 9) (
 .ghost (.keep [0, 2, 3]) .skip) (
 .ghost (.keep [0]) (.exit 0)))) (
 f_slices_Reverse_bool_r0)
def f_slices_Reverse_bool : AFun :=
 { n := 1, wr := [], res := [], body :=
 .seq (
 .region [0, 2, 3] [] [
 ⟨some 4, none, .mv false (.s 0)⟩,
 ⟨some 5, none, .len false (.s 4)⟩,
 ⟨some 6, none, .bin .sub (.s 5) (.c (i64 1))⟩,
 ⟨some 2, none, .mv false (.c (i64 0))⟩,
 ⟨some 3, none, .mv false (.s 6)⟩]) (
 .block 0 (
 .loop f_slices_Reverse_bool_l0)) }

def f_slices_Reverse_empty_bool_r0 : ACode :=
 .seq (
 .block 1 (
 .region [2, 3] [] [
 ⟨some 14, none, .mv false (.s 0)⟩,
 ⟨some 15, none, .mv false (.s 2)⟩,
 ⟨some 16, none, .mv false (.s 0)⟩,
 ⟨some 17, none, .mv false (.s 3)⟩,
 ⟨some 18, none, .mv false (.s 0)⟩,
 ⟨some 19, none, .mv false (.s 3)⟩,
 ⟨some 20, none, .idxSl 1 (.s 18) (.s 19)⟩,
 ⟨some 21, none, .load none none false (.s 20)⟩,
 ⟨some 22, none, .mv false (.s 0)⟩,
 ⟨some 23, none, .mv false (.s 2)⟩,
 ⟨some 24, none, .idxSl 1 (.s 22) (.s 23)⟩,
 ⟨some 25, none, .load none none false (.s 24)⟩,
 ⟨some 26, none, .idxSl 1 (.s 14) (.s 15)⟩,
 ⟨none, none, .unsup⟩,
 ⟨some 27, none, .idxSl 1 (.s 16) (.s 17)⟩,
 ⟨none, none, .unsup⟩])) (
 .region [2, 3] [] [
 ⟨some 10, none, .mv false (.s 2)⟩,
 ⟨some 11, none, .bin .add (.s 10) (.c (i64 1))⟩,
 ⟨some 12, none, .mv false (.s 3)⟩,
 ⟨some 13, none, .bin .sub (.s 12) (.c (i64 1))⟩,
 ⟨some 2, none, .mv false (.s 11)⟩,
 ⟨some 3, none, .mv false (.s 13)⟩])
def f_slices_Reverse_empty_bool_l0 : ACode :=
 .seq (
 .seq (
 .region [2, 3, 9] [] [
 ⟨some 7, none, .mv false (.s 2)⟩,
 ⟨some 8, none, .mv false (.s 3)⟩,
 ⟨some 9, none, .bin .lss (.s 7) (.s 8)⟩]) (
 .cond (.s 9) (
 .ghost (.keep [2, 3]) .skip) (
 .ghost (.keep []) (.exit 0)))) (
 f_slices_Reverse_empty_bool_r0)
def f_slices_Reverse_empty_bool : AFun :=
 { n := 1, wr := [], res := [], body :=
 .seq (
 .region [2, 3] [] [
 ⟨some 4, none, .mv false (.s 0)⟩,
 ⟨some 5, none, .len false (.s 4)⟩,
 ⟨some 6, none, .bin .sub (.s 5) (.c (i64 1))⟩,
 ⟨some 2, none, .mv false (.c (i64 0))⟩,
 ⟨some 3, none, .mv false (.s 6)⟩]) (
 .block 0 (
 .loop f_slices_Reverse_empty_bool_l0)) }

def f_slices_Equal_byte_r1 : ACode :=
 .seq (
 .block 1 (
 .seq (
 .region [5, 12, 13] [] [
 ⟨some 15, none, .mv false (.s 13)⟩,
 ⟨some 5, none, .mv false (.s 15)⟩]) (
 .seq (
 .region [12, 13, 24] [] [
 ⟨some 16, none, .mv false (.s 0)⟩,
 ⟨some 17, none, .mv false (.s 5)⟩,
 ⟨some 18, none, .idxSl 1 (.s 16) (.s 17)⟩,
 ⟨some 19, none, .load none none false (.s 18)⟩,
 ⟨some 20, none, .mv false (.s 1)⟩,
 ⟨some 21, none, .mv false (.s 5)⟩,
 ⟨some 22, none, .idxSl 1 (.s 20) (.s 21)⟩,
 ⟨some 23, none, .load none none false (.s 22)⟩,
 ⟨some 24, none, .bin .neq (.s 19) (.s 23)⟩]) (
 .cond (.s 24) (
 .seq (
 .region [4] [] [
 ⟨some 4, none, .mv false (.c (bo false))⟩]) (
 .ret)) (
 .ghost (.keep [12, 13]) .skip))))) (
 .region [12, 13] [] [
 ⟨some 25, none, .bin .add (.s 13) (.c (i64 1))⟩,
 ⟨some 13, none, .mv false (.s 25)⟩])
def f_slices_Equal_byte_l0 : ACode :=
 .seq (
 .region [12, 13, 14] [] [
 ⟨some 14, none, .bin .lss (.s 13) (.s 12)⟩]) (
 .seq (
 .cond (.s 14) (
 .ghost (.keep [12, 13]) .skip) (
 .ghost (.keep []) (.exit 0))) (
 f_slices_Equal_byte_r1))
def f_slices_Equal_byte_r2 : ACode :=
 .seq (
 .region [4] [] [
 ⟨some 4, none, .mv false (.c (bo true))⟩]) (
 .ret)
def f_slices_Equal_byte_r0 : ACode :=
 .seq (
 .seq (
 .region [12, 13] [] [
 ⟨some 11, none, .mv false (.s 0)⟩,
 ⟨some 12, none, .len false (.s 11)⟩,
 ⟨some 13, none, .mv false (.c (i64 0))⟩]) (
 .block 0 (
 .loop f_slices_Equal_byte_l0))) (
 f_slices_Equal_byte_r2)
def f_slices_Equal_byte : AFun :=
 { n := 2, wr := [], res := [.t 4], body :=
 .seq (
 .region [] [] [
 ⟨some 4, none, .mv false (.c (bo false))⟩]) (
 .seq (
 .seq (
 .region [10] [] [
 ⟨some 6, none, .mv false (.s 0)⟩,
 ⟨some 7, none, .len false (.s 6)⟩,
 ⟨some 8, none, .mv false (.s 1)⟩,
 ⟨some 9, none, .len false (.s 8)⟩,
 ⟨some 10, none, .bin .neq (.s 7) (.s 9)⟩]) (
 .cond (.s 10) (
 .seq (
 .region [4] [] [
 ⟨some 4, none, .mv false (.c (bo false))⟩]) (
 .ret)) (
 .ghost (.keep []) .skip))) (
 f_slices_Equal_byte_r0)) }

def f_merkle_valid : AFun :=
 { n := 1, wr := [], res := [.t 2], body :=
 .seq (
 .region [1] [.norm [1]] [
 ⟨some 1, none, .box 1 (some 2) false (.s 0)⟩,
 ⟨some 2, none, .mv false (.c (bo false))⟩]) (
 .seq (
 .region [2] [.norm [1]] [
 ⟨some 3, none, .fieldAddr 0 (.s 1)⟩,
 ⟨some 4, none, .load none (some 1) false (.s 3)⟩,
 ⟨some 5, none, .bin .geq (.s 4) (.c (i64 0))⟩,
 ⟨some 6, none, .mv false (.s 5)⟩,
 ⟨some 7, (some (6, true)), .fieldAddr 0 (.s 1)⟩,
 ⟨some 8, (some (6, true)), .load none (some 1) false (.s 7)⟩,
 ⟨some 9, (some (6, true)), .bin .leq (.s 8) (.c (i64 4294967296))⟩,
 ⟨some 10, none, .pick (.s 6) (.s 9) (.c (bo false))⟩,
 ⟨some 11, none, .mv false (.s 10)⟩,
 ⟨some 12, (some (11, true)), .fieldAddr 1 (.s 1)⟩,
 ⟨some 13, (some (11, true)), .load none (some 1) false (.s 12)⟩,
 ⟨some 14, (some (11, true)), .len false (.s 13)⟩,
 ⟨some 15, (some (11, true)), .fieldAddr 0 (.s 1)⟩,
 ⟨some 16, (some (11, true)), .load none (some 1) false (.s 15)⟩,
 ⟨some 17, (some (11, true)), .toInt .u64 (.s 16)⟩,
 ⟨some 18, (some (11, true)), .call 188 [(.s 17)] []⟩,
 ⟨some 19, (some (11, true)), .bin .eql (.s 14) (.s 18)⟩,
 ⟨some 20, none, .pick (.s 11) (.s 19) (.c (bo false))⟩,
 ⟨some 2, none, .mv false (.s 20)⟩]) (
 .ret)) }

def f_bits_TrailingZeros_r0 : ACode :=
 .seq (
 .region [2] [] [
 ⟨some 6, none, .mv false (.s 0)⟩,
 ⟨some 7, none, .call 190 [(.s 6)] []⟩,
 ⟨some 2, none, .mv false (.s 7)⟩]) (
 .ret)
def f_bits_TrailingZeros : AFun :=
 { n := 1, wr := [], res := [.t 2], body :=
 .seq (
 .region [] [] [
 ⟨some 2, none, .mv false (.c (i64 0))⟩]) (
 .seq (
 .cond (.c (bo false)) (
 .seq (
 .region [2] [] [
 ⟨some 3, none, .mv false (.s 0)⟩,
 ⟨some 4, none, .toInt .u32 (.s 3)⟩,
 ⟨some 5, none, .call 189 [(.s 4)] []⟩,
 ⟨some 2, none, .mv false (.s 5)⟩]) (
 .ret)) (
 .ghost (.keep []) .skip)) (
 f_bits_TrailingZeros_r0)) }

def f_slices_Backward : AFun :=
 { n := 1, wr := [], res := [.t 2], body :=
 .seq (
 .region [1] [.norm [1]] [
 ⟨some 1, none, .box 1 none true (.s 0)⟩,
 ⟨some 2, none, .mv false (.c (.lit .nilFunc))⟩]) (
 .seq (
 .region [2] [] [
 ⟨some 3, none, .mkfn 184 [] [(.s 1)]⟩,
 ⟨some 2, none, .mv false (.s 3)⟩]) (
 .ret)) }

def f_bits_Len_r0 : ACode :=
 .seq (
 .region [2] [] [
 ⟨some 6, none, .mv false (.s 0)⟩,
 ⟨some 7, none, .call 192 [(.s 6)] []⟩,
 ⟨some 2, none, .mv false (.s 7)⟩]) (
 .ret)
def f_bits_Len : AFun :=
 { n := 1, wr := [], res := [.t 2], body :=
 .seq (
 .region [] [] [
 ⟨some 2, none, .mv false (.c (i64 0))⟩]) (
 .seq (
 .cond (.c (bo false)) (
 .seq (
 .region [2] [] [
 ⟨some 3, none, .mv false (.s 0)⟩,
 ⟨some 4, none, .toInt .u32 (.s 3)⟩,
 ⟨some 5, none, .call 191 [(.s 4)] []⟩,
 ⟨some 2, none, .mv false (.s 5)⟩]) (
 .ret)) (
 .ghost (.keep []) .skip)) (
 f_bits_Len_r0)) }

def f_merkle_inputs_1 : AFun :=
 { n := 5, wr := [], res := [], body :=
 .region [4] [.norm [4]] [
 ⟨some 9, none, .load none (some 4) true (.s 4)⟩,
 ⟨some 10, none, .mv false (.s 2)⟩,
 ⟨some 11, none, .mv false (.s 0)⟩,
 ⟨some 12, none, .bin .lss (.s 10) (.s 11)⟩,
 ⟨some 13, none, .buildSl 1 1 [bo false] [(0, 1, (.s 12))]⟩,
 ⟨some 14, none, .append 1 1 false none none 9 (.s 13)⟩,
 ⟨none, none, .store none 4 true (.s 4) (.s 14)⟩] }

def f_bits_OnesCount_r0 : ACode :=
 .seq (
 .region [2] [] [
 ⟨some 6, none, .mv false (.s 0)⟩,
 ⟨some 7, none, .call 194 [(.s 6)] []⟩,
 ⟨some 2, none, .mv false (.s 7)⟩]) (
 .ret)
def f_bits_OnesCount : AFun :=
 { n := 1, wr := [], res := [.t 2], body :=
 .seq (
 .region [] [] [
 ⟨some 2, none, .mv false (.c (i64 0))⟩]) (
 .seq (
 .cond (.c (bo false)) (
 .seq (
 .region [2] [] [
 ⟨some 3, none, .mv false (.s 0)⟩,
 ⟨some 4, none, .toInt .u32 (.s 3)⟩,
 ⟨some 5, none, .call 193 [(.s 4)] []⟩,
 ⟨some 2, none, .mv false (.s 5)⟩]) (
 .ret)) (
 .ghost (.keep []) .skip)) (
 f_bits_OnesCount_r0)) }

def f_bits_TrailingZeros32_r0 : ACode :=
 .seq (
 .region [2] [] [
 ⟨some 5, none, .mv false (.s 0)⟩,
 ⟨some 6, none, .mv false (.s 0)⟩,
 ⟨some 7, none, .un .neg (.s 6)⟩,
 ⟨some 8, none, .bin .and (.s 5) (.s 7)⟩,
 ⟨some 9, none, .bin .mul (.s 8) (.c (u32 125613361))⟩,
 ⟨some 10, none, .bin .shr (.s 9) (.c (u64 27))⟩,
 ⟨some 11, none, .idxArr 32 1 (.g 4) (.s 10)⟩,
 ⟨some 12, none, .load none none false (.s 11)⟩,
 ⟨some 13, none, .toInt .i64 (.s 12)⟩,
 ⟨some 2, none, .mv false (.s 13)⟩]) (
 .ret)
def f_bits_TrailingZeros32 : AFun :=
 { n := 1, wr := [], res := [.t 2], body :=
 .seq (
 .region [] [] [
 ⟨some 2, none, .mv false (.c (i64 0))⟩]) (
 .seq (
 .seq (
 .region [4] [] [
 ⟨some 3, none, .mv false (.s 0)⟩,
 ⟨some 4, none, .bin .eql (.s 3) (.c (u32 0))⟩]) (
 .cond (.s 4) (
 .seq (
 .region [2] [] [
 ⟨some 2, none, .mv false (.c (i64 32))⟩]) (
 .ret)) (
 .ghost (.keep []) .skip))) (
 f_bits_TrailingZeros32_r0)) }

def f_bits_TrailingZeros64_r0 : ACode :=
 .seq (
 .region [2] [] [
 ⟨some 5, none, .mv false (.s 0)⟩,
 ⟨some 6, none, .mv false (.s 0)⟩,
 ⟨some 7, none, .un .neg (.s 6)⟩,
 ⟨some 8, none, .bin .and (.s 5) (.s 7)⟩,
 ⟨some 9, none, .bin .mul (.s 8) (.c (u64 285870213051353865))⟩,
 ⟨some 10, none, .bin .shr (.s 9) (.c (u64 58))⟩,
 ⟨some 11, none, .idxArr 64 1 (.g 3) (.s 10)⟩,
 ⟨some 12, none, .load none none false (.s 11)⟩,
 ⟨some 13, none, .toInt .i64 (.s 12)⟩,
 ⟨some 2, none, .mv false (.s 13)⟩]) (
 .ret)
def f_bits_TrailingZeros64 : AFun :=
 { n := 1, wr := [], res := [.t 2], body :=
 .seq (
 .region [] [] [
 ⟨some 2, none, .mv false (.c (i64 0))⟩]) (
 .seq (
 .seq (
 .region [4] [] [
 ⟨some 3, none, .mv false (.s 0)⟩,
 ⟨some 4, none, .bin .eql (.s 3) (.c (u64 0))⟩]) (
 .cond (.s 4) (
 .seq (
 .region [2] [] [
 ⟨some 2, none, .mv false (.c (i64 64))⟩]) (
 .ret)) (
 .ghost (.keep []) .skip))) (
 f_bits_TrailingZeros64_r0)) }

def f_slices_Backward_1_p0 : ACode :=
 .region [3] [] [
 ⟨some 4, none, .load none none false (.s 1)⟩,
 ⟨some 5, none, .len false (.s 4)⟩,
 ⟨some 6, none, .bin .sub (.s 5) (.c (i64 1))⟩,
 ⟨some 3, none, .mv false (.s 6)⟩]
def f_slices_Backward_1_p1 : ACode :=
 .seq (
 .region [3, 8] [] [
 ⟨some 7, none, .mv false (.s 3)⟩,
 ⟨some 8, none, .bin .geq (.s 7) (.c (i64 0))⟩]) (
 .cond (.s 8) (
 .ghost (.keep [3]) .skip) (
 .ghost (.keep []) (.exit 0)))
def f_slices_Backward_1_p2 : ACode :=
 .cond (.s 18) (
 .ret) (
 .ghost (.keep [3]) .skip)
def f_slices_Backward_1_i0 : ICode :=
 .plain f_slices_Backward_1_p2
def f_slices_Backward_1_i1 : ICode :=
 .seq (
 .block 1 (
 .seq (
 .yield [3, 18] [] [
 ⟨some 11, none, .mv false (.s 0)⟩,
 ⟨some 12, none, .mv false (.s 3)⟩,
 ⟨some 13, none, .load none none false (.s 1)⟩,
 ⟨some 14, none, .mv false (.s 3)⟩,
 ⟨some 15, none, .idxSl 16 (.s 13) (.s 14)⟩,
 ⟨some 16, none, .load (some 16) none false (.s 15)⟩] (some 17) 11 [(.s 12), (.s 16)] [
 ⟨some 18, none, .un .not (.s 17)⟩]) (
 f_slices_Backward_1_i0))) (
 .plain (
 .region [3] [] [
 ⟨some 9, none, .mv false (.s 3)⟩,
 ⟨some 10, none, .bin .sub (.s 9) (.c (i64 1))⟩,
 ⟨some 3, none, .mv false (.s 10)⟩]))
def f_slices_Backward_1_i2 : ICode :=
 .seq (
 .plain f_slices_Backward_1_p1) (
 f_slices_Backward_1_i1)
def f_slices_Backward_1_i3 : ICode :=
 .block 0 (
 .loop (
 f_slices_Backward_1_i2))
def f_slices_Backward_1 : IFun :=
 { nx := 0, ny := 1, body :=
 .seq (
 .plain f_slices_Backward_1_p0) (
 f_slices_Backward_1_i3) }

def f_bits_Len32_r1 : ACode :=
 .seq (
 .region [2] [] [
 ⟨some 13, none, .mv false (.s 2)⟩,
 ⟨some 14, none, .mv false (.s 0)⟩,
 ⟨some 15, none, .toInt .u8 (.s 14)⟩,
 ⟨some 16, none, .idxStr (.c (st [0, 1, 2, 2, 3, 3, 3, 3, 4, 4, 4, 4, 4, 4, 4, 4, 5, 5, 5, 5, 5, 5, 5, 5, 5, 5, 5, 5, 5, 5, 5, 5, 6, 6, 6, 6, 6, 6, 6, 6, 6, 6, 6, 6, 6, 6, 6, 6, 6, 6, 6, 6, 6, 6, 6, 6, 6, 6, 6, 6, 6, 6, 6, 6, 7, 7, 7, 7, 7, 7, 7, 7, 7, 7, 7, 7, 7, 7, 7, 7, 7, 7, 7, 7, 7, 7, 7, 7, 7, 7, 7, 7, 7, 7, 7, 7, 7, 7, 7, 7, 7, 7, 7, 7, 7, 7, 7, 7, 7, 7, 7, 7, 7, 7, 7, 7, 7, 7, 7, 7, 7, 7, 7, 7, 7, 7, 7, 7, 8, 8, 8, 8, 8, 8, 8, 8, 8, 8, 8, 8, 8, 8, 8, 8, 8, 8, 8, 8, 8, 8, 8, 8, 8, 8, 8, 8, 8, 8, 8, 8, 8, 8, 8, 8, 8, 8, 8, 8, 8, 8, 8, 8, 8, 8, 8, 8, 8, 8, 8, 8, 8, 8, 8, 8, 8, 8, 8, 8, 8, 8, 8, 8, 8, 8, 8, 8, 8, 8, 8, 8, 8, 8, 8, 8, 8, 8, 8, 8, 8, 8, 8, 8, 8, 8, 8, 8, 8, 8, 8, 8, 8, 8, 8, 8, 8, 8, 8, 8, 8, 8, 8, 8, 8, 8, 8, 8, 8, 8, 8, 8, 8, 8, 8, 8, 8, 8, 8, 8, 8, 8, 8, 8, 8, 8, 8, 8])) (.s 15)⟩,
 ⟨some 17, none, .toInt .i64 (.s 16)⟩,
 ⟨some 18, none, .bin .add (.s 13) (.s 17)⟩,
 ⟨some 2, none, .mv false (.s 18)⟩]) (
 .ret)
def f_bits_Len32_r0 : ACode :=
 .seq (
 .seq (
 .region [0, 2, 8] [] [
 ⟨some 7, none, .mv false (.s 0)⟩,
 ⟨some 8, none, .bin .geq (.s 7) (.c (u32 256))⟩]) (
 .cond (.s 8) (
 .seq (
 .region [0, 2] [] [
 ⟨some 9, none, .mv false (.s 0)⟩,
 ⟨some 10, none, .bin .shr (.s 9) (.c (u64 8))⟩,
 ⟨some 0, none, .mv false (.s 10)⟩]) (
 .region [0, 2] [] [
 ⟨some 11, none, .mv false (.s 2)⟩,
 ⟨some 12, none, .bin .add (.s 11) (.c (i64 8))⟩,
 ⟨some 2, none, .mv false (.s 12)⟩])) (
 .ghost (.keep [0, 2]) .skip))) (
 f_bits_Len32_r1)
def f_bits_Len32 : AFun :=
 { n := 1, wr := [0], res := [.t 2], body :=
 .seq (
 .region [0, 2] [] [
 ⟨some 2, none, .mv false (.c (i64 0))⟩]) (
 .seq (
 .seq (
 .region [0, 2, 4] [] [
 ⟨some 3, none, .mv false (.s 0)⟩,
 ⟨some 4, none, .bin .geq (.s 3) (.c (u32 65536))⟩]) (
 .cond (.s 4) (
 .seq (
 .region [0] [] [
 ⟨some 5, none, .mv false (.s 0)⟩,
 ⟨some 6, none, .bin .shr (.s 5) (.c (u64 16))⟩,
 ⟨some 0, none, .mv false (.s 6)⟩]) (
 .region [0, 2] [] [
 ⟨some 2, none, .mv false (.c (i64 16))⟩])) (
 .ghost (.keep [0, 2]) .skip))) (
 f_bits_Len32_r0)) }

def f_bits_Len64_r2 : ACode :=
 .seq (
 .region [2] [] [
 ⟨some 19, none, .mv false (.s 2)⟩,
 ⟨some 20, none, .mv false (.s 0)⟩,
 ⟨some 21, none, .toInt .u8 (.s 20)⟩,
 ⟨some 22, none, .idxStr (.c (st [0, 1, 2, 2, 3, 3, 3, 3, 4, 4, 4, 4, 4, 4, 4, 4, 5, 5, 5, 5, 5, 5, 5, 5, 5, 5, 5, 5, 5, 5, 5, 5, 6, 6, 6, 6, 6, 6, 6, 6, 6, 6, 6, 6, 6, 6, 6, 6, 6, 6, 6, 6, 6, 6, 6, 6, 6, 6, 6, 6, 6, 6, 6, 6, 7, 7, 7, 7, 7, 7, 7, 7, 7, 7, 7, 7, 7, 7, 7, 7, 7, 7, 7, 7, 7, 7, 7, 7, 7, 7, 7, 7, 7, 7, 7, 7, 7, 7, 7, 7, 7, 7, 7, 7, 7, 7, 7, 7, 7, 7, 7, 7, 7, 7, 7, 7, 7, 7, 7, 7, 7, 7, 7, 7, 7, 7, 7, 7, 8, 8, 8, 8, 8, 8, 8, 8, 8, 8, 8, 8, 8, 8, 8, 8, 8, 8, 8, 8, 8, 8, 8, 8, 8, 8, 8, 8, 8, 8, 8, 8, 8, 8, 8, 8, 8, 8, 8, 8, 8, 8, 8, 8, 8, 8, 8, 8, 8, 8, 8, 8, 8, 8, 8, 8, 8, 8, 8, 8, 8, 8, 8, 8, 8, 8, 8, 8, 8, 8, 8, 8, 8, 8, 8, 8, 8, 8, 8, 8, 8, 8, 8, 8, 8, 8, 8, 8, 8, 8, 8, 8, 8, 8, 8, 8, 8, 8, 8, 8, 8, 8, 8, 8, 8, 8, 8, 8, 8, 8, 8, 8, 8, 8, 8, 8, 8, 8, 8, 8, 8, 8, 8, 8, 8, 8, 8, 8])) (.s 21)⟩,
 ⟨some 23, none, .toInt .i64 (.s 22)⟩,
 ⟨some 24, none, .bin .add (.s 19) (.s 23)⟩,
 ⟨some 2, none, .mv false (.s 24)⟩]) (
 .ret)
def f_bits_Len64_r1 : ACode :=
 .seq (
 .seq (
 .region [0, 2, 14] [] [
 ⟨some 13, none, .mv false (.s 0)⟩,
 ⟨some 14, none, .bin .geq (.s 13) (.c (u64 256))⟩]) (
 .cond (.s 14) (
 .seq (
 .region [0, 2] [] [
 ⟨some 15, none, .mv false (.s 0)⟩,
 ⟨some 16, none, .bin .shr (.s 15) (.c (u64 8))⟩,
 ⟨some 0, none, .mv false (.s 16)⟩]) (
 .region [0, 2] [] [
 ⟨some 17, none, .mv false (.s 2)⟩,
 ⟨some 18, none, .bin .add (.s 17) (.c (i64 8))⟩,
 ⟨some 2, none, .mv false (.s 18)⟩])) (
 .ghost (.keep [0, 2]) .skip))) (
 f_bits_Len64_r2)
def f_bits_Len64_r0 : ACode :=
 .seq (
 .seq (
 .region [0, 2, 8] [] [
 ⟨some 7, none, .mv false (.s 0)⟩,
 ⟨some 8, none, .bin .geq (.s 7) (.c (u64 65536))⟩]) (
 .cond (.s 8) (
 .seq (
 .region [0, 2] [] [
 ⟨some 9, none, .mv false (.s 0)⟩,
 ⟨some 10, none, .bin .shr (.s 9) (.c (u64 16))⟩,
 ⟨some 0, none, .mv false (.s 10)⟩]) (
 .region [0, 2] [] [
 ⟨some 11, none, .mv false (.s 2)⟩,
 ⟨some 12, none, .bin .add (.s 11) (.c (i64 16))⟩,
 ⟨some 2, none, .mv false (.s 12)⟩])) (
 .ghost (.keep [0, 2]) .skip))) (
 f_bits_Len64_r1)
def f_bits_Len64 : AFun :=
 { n := 1, wr := [0], res := [.t 2], body :=
 .seq (
 .region [0, 2] [] [
 ⟨some 2, none, .mv false (.c (i64 0))⟩]) (
 .seq (
 .seq (
 .region [0, 2, 4] [] [
 ⟨some 3, none, .mv false (.s 0)⟩,
 ⟨some 4, none, .bin .geq (.s 3) (.c (u64 4294967296))⟩]) (
 .cond (.s 4) (
 .seq (
 .region [0] [] [
 ⟨some 5, none, .mv false (.s 0)⟩,
 ⟨some 6, none, .bin .shr (.s 5) (.c (u64 32))⟩,
 ⟨some 0, none, .mv false (.s 6)⟩]) (
 .region [0, 2] [] [
 ⟨some 2, none, .mv false (.c (i64 32))⟩])) (
 .ghost (.keep [0, 2]) .skip))) (
 f_bits_Len64_r0)) }

def f_bits_OnesCount32 : AFun :=
 { n := 1, wr := [], res := [.t 2], body :=
 .seq (
 .region [] [] [
 ⟨some 2, none, .mv false (.c (i64 0))⟩]) (
 .seq (
 .region [2] [] [
 ⟨some 3, none, .mv false (.s 0)⟩,
 ⟨some 4, none, .bin .shr (.s 3) (.c (u64 24))⟩,
 ⟨some 5, none, .idxStr (.c (st [0, 1, 1, 2, 1, 2, 2, 3, 1, 2, 2, 3, 2, 3, 3, 4, 1, 2, 2, 3, 2, 3, 3, 4, 2, 3, 3, 4, 3, 4, 4, 5, 1, 2, 2, 3, 2, 3, 3, 4, 2, 3, 3, 4, 3, 4, 4, 5, 2, 3, 3, 4, 3, 4, 4, 5, 3, 4, 4, 5, 4, 5, 5, 6, 1, 2, 2, 3, 2, 3, 3, 4, 2, 3, 3, 4, 3, 4, 4, 5, 2, 3, 3, 4, 3, 4, 4, 5, 3, 4, 4, 5, 4, 5, 5, 6, 2, 3, 3, 4, 3, 4, 4, 5, 3, 4, 4, 5, 4, 5, 5, 6, 3, 4, 4, 5, 4, 5, 5, 6, 4, 5, 5, 6, 5, 6, 6, 7, 1, 2, 2, 3, 2, 3, 3, 4, 2, 3, 3, 4, 3, 4, 4, 5, 2, 3, 3, 4, 3, 4, 4, 5, 3, 4, 4, 5, 4, 5, 5, 6, 2, 3, 3, 4, 3, 4, 4, 5, 3, 4, 4, 5, 4, 5, 5, 6, 3, 4, 4, 5, 4, 5, 5, 6, 4, 5, 5, 6, 5, 6, 6, 7, 2, 3, 3, 4, 3, 4, 4, 5, 3, 4, 4, 5, 4, 5, 5, 6, 3, 4, 4, 5, 4, 5, 5, 6, 4, 5, 5, 6, 5, 6, 6, 7, 3, 4, 4, 5, 4, 5, 5, 6, 4, 5, 5, 6, 5, 6, 6, 7, 4, 5, 5, 6, 5, 6, 6, 7, 5, 6, 6, 7, 6, 7, 7, 8])) (.s 4)⟩,
 ⟨some 6, none, .mv false (.s 0)⟩,
 ⟨some 7, none, .bin .shr (.s 6) (.c (u64 16))⟩,
 ⟨some 8, none, .bin .and (.s 7) (.c (u32 255))⟩,
 ⟨some 9, none, .idxStr (.c (st [0, 1, 1, 2, 1, 2, 2, 3, 1, 2, 2, 3, 2, 3, 3, 4, 1, 2, 2, 3, 2, 3, 3, 4, 2, 3, 3, 4, 3, 4, 4, 5, 1, 2, 2, 3, 2, 3, 3, 4, 2, 3, 3, 4, 3, 4, 4, 5, 2, 3, 3, 4, 3, 4, 4, 5, 3, 4, 4, 5, 4, 5, 5, 6, 1, 2, 2, 3, 2, 3, 3, 4, 2, 3, 3, 4, 3, 4, 4, 5, 2, 3, 3, 4, 3, 4, 4, 5, 3, 4, 4, 5, 4, 5, 5, 6, 2, 3, 3, 4, 3, 4, 4, 5, 3, 4, 4, 5, 4, 5, 5, 6, 3, 4, 4, 5, 4, 5, 5, 6, 4, 5, 5, 6, 5, 6, 6, 7, 1, 2, 2, 3, 2, 3, 3, 4, 2, 3, 3, 4, 3, 4, 4, 5, 2, 3, 3, 4, 3, 4, 4, 5, 3, 4, 4, 5, 4, 5, 5, 6, 2, 3, 3, 4, 3, 4, 4, 5, 3, 4, 4, 5, 4, 5, 5, 6, 3, 4, 4, 5, 4, 5, 5, 6, 4, 5, 5, 6, 5, 6, 6, 7, 2, 3, 3, 4, 3, 4, 4, 5, 3, 4, 4, 5, 4, 5, 5, 6, 3, 4, 4, 5, 4, 5, 5, 6, 4, 5, 5, 6, 5, 6, 6, 7, 3, 4, 4, 5, 4, 5, 5, 6, 4, 5, 5, 6, 5, 6, 6, 7, 4, 5, 5, 6, 5, 6, 6, 7, 5, 6, 6, 7, 6, 7, 7, 8])) (.s 8)⟩,
 ⟨some 10, none, .bin .add (.s 5) (.s 9)⟩,
 ⟨some 11, none, .mv false (.s 0)⟩,
 ⟨some 12, none, .bin .shr (.s 11) (.c (u64 8))⟩,
 ⟨some 13, none, .bin .and (.s 12) (.c (u32 255))⟩,
 ⟨some 14, none, .idxStr (.c (st [0, 1, 1, 2, 1, 2, 2, 3, 1, 2, 2, 3, 2, 3, 3, 4, 1, 2, 2, 3, 2, 3, 3, 4, 2, 3, 3, 4, 3, 4, 4, 5, 1, 2, 2, 3, 2, 3, 3, 4, 2, 3, 3, 4, 3, 4, 4, 5, 2, 3, 3, 4, 3, 4, 4, 5, 3, 4, 4, 5, 4, 5, 5, 6, 1, 2, 2, 3, 2, 3, 3, 4, 2, 3, 3, 4, 3, 4, 4, 5, 2, 3, 3, 4, 3, 4, 4, 5, 3, 4, 4, 5, 4, 5, 5, 6, 2, 3, 3, 4, 3, 4, 4, 5, 3, 4, 4, 5, 4, 5, 5, 6, 3, 4, 4, 5, 4, 5, 5, 6, 4, 5, 5, 6, 5, 6, 6, 7, 1, 2, 2, 3, 2, 3, 3, 4, 2, 3, 3, 4, 3, 4, 4, 5, 2, 3, 3, 4, 3, 4, 4, 5, 3, 4, 4, 5, 4, 5, 5, 6, 2, 3, 3, 4, 3, 4, 4, 5, 3, 4, 4, 5, 4, 5, 5, 6, 3, 4, 4, 5, 4, 5, 5, 6, 4, 5, 5, 6, 5, 6, 6, 7, 2, 3, 3, 4, 3, 4, 4, 5, 3, 4, 4, 5, 4, 5, 5, 6, 3, 4, 4, 5, 4, 5, 5, 6, 4, 5, 5, 6, 5, 6, 6, 7, 3, 4, 4, 5, 4, 5, 5, 6, 4, 5, 5, 6, 5, 6, 6, 7, 4, 5, 5, 6, 5, 6, 6, 7, 5, 6, 6, 7, 6, 7, 7, 8])) (.s 13)⟩,
 ⟨some 15, none, .bin .add (.s 10) (.s 14)⟩,
 ⟨some 16, none, .mv false (.s 0)⟩,
 ⟨some 17, none, .bin .and (.s 16) (.c (u32 255))⟩,
 ⟨some 18, none, .idxStr (.c (st [0, 1, 1, 2, 1, 2, 2, 3, 1, 2, 2, 3, 2, 3, 3, 4, 1, 2, 2, 3, 2, 3, 3, 4, 2, 3, 3, 4, 3, 4, 4, 5, 1, 2, 2, 3, 2, 3, 3, 4, 2, 3, 3, 4, 3, 4, 4, 5, 2, 3, 3, 4, 3, 4, 4, 5, 3, 4, 4, 5, 4, 5, 5, 6, 1, 2, 2, 3, 2, 3, 3, 4, 2, 3, 3, 4, 3, 4, 4, 5, 2, 3, 3, 4, 3, 4, 4, 5, 3, 4, 4, 5, 4, 5, 5, 6, 2, 3, 3, 4, 3, 4, 4, 5, 3, 4, 4, 5, 4, 5, 5, 6, 3, 4, 4, 5, 4, 5, 5, 6, 4, 5, 5, 6, 5, 6, 6, 7, 1, 2, 2, 3, 2, 3, 3, 4, 2, 3, 3, 4, 3, 4, 4, 5, 2, 3, 3, 4, 3, 4, 4, 5, 3, 4, 4, 5, 4, 5, 5, 6, 2, 3, 3, 4, 3, 4, 4, 5, 3, 4, 4, 5, 4, 5, 5, 6, 3, 4, 4, 5, 4, 5, 5, 6, 4, 5, 5, 6, 5, 6, 6, 7, 2, 3, 3, 4, 3, 4, 4, 5, 3, 4, 4, 5, 4, 5, 5, 6, 3, 4, 4, 5, 4, 5, 5, 6, 4, 5, 5, 6, 5, 6, 6, 7, 3, 4, 4, 5, 4, 5, 5, 6, 4, 5, 5, 6, 5, 6, 6, 7, 4, 5, 5, 6, 5, 6, 6, 7, 5, 6, 6, 7, 6, 7, 7, 8])) (.s 17)⟩,
 ⟨some 19, none, .bin .add (.s 15) (.s 18)⟩,
 ⟨some 20, none, .toInt .i64 (.s 19)⟩,
 ⟨some 2, none, .mv false (.s 20)⟩]) (
 .ret)) }

def f_bits_OnesCount64 : AFun :=
 { n := 1, wr := [0], res := [.t 2], body :=
 .seq (
 .region [0] [] [
 ⟨some 2, none, .mv false (.c (i64 0))⟩]) (
 .seq (
 .region [0] [] [
 ⟨some 3, none, .mv false (.s 0)⟩,
 ⟨some 4, none, .bin .shr (.s 3) (.c (u64 1))⟩,
 ⟨some 5, none, .bin .and (.s 4) (.c (u64 6148914691236517205))⟩,
 ⟨some 6, none, .mv false (.s 0)⟩,
 ⟨some 7, none, .bin .and (.s 6) (.c (u64 6148914691236517205))⟩,
 ⟨some 8, none, .bin .add (.s 5) (.s 7)⟩,
 ⟨some 0, none, .mv false (.s 8)⟩]) (
 .seq (
 .region [0] [] [
 ⟨some 9, none, .mv false (.s 0)⟩,
 ⟨some 10, none, .bin .shr (.s 9) (.c (u64 2))⟩,
 ⟨some 11, none, .bin .and (.s 10) (.c (u64 3689348814741910323))⟩,
 ⟨some 12, none, .mv false (.s 0)⟩,
 ⟨some 13, none, .bin .and (.s 12) (.c (u64 3689348814741910323))⟩,
 ⟨some 14, none, .bin .add (.s 11) (.s 13)⟩,
 ⟨some 0, none, .mv false (.s 14)⟩]) (
 .seq (
 .region [0] [] [
 ⟨some 15, none, .mv false (.s 0)⟩,
 ⟨some 16, none, .bin .shr (.s 15) (.c (u64 4))⟩,
 ⟨some 17, none, .mv false (.s 0)⟩,
 ⟨some 18, none, .bin .add (.s 16) (.s 17)⟩,
 ⟨some 19, none, .bin .and (.s 18) (.c (u64 1085102592571150095))⟩,
 ⟨some 0, none, .mv false (.s 19)⟩]) (
 .seq (
 .region [0] [] [
 ⟨some 20, none, .mv false (.s 0)⟩,
 ⟨some 21, none, .mv false (.s 0)⟩,
 ⟨some 22, none, .bin .shr (.s 21) (.c (u64 8))⟩,
 ⟨some 23, none, .bin .add (.s 20) (.s 22)⟩,
 ⟨some 0, none, .mv false (.s 23)⟩]) (
 .seq (
 .region [0] [] [
 ⟨some 24, none, .mv false (.s 0)⟩,
 ⟨some 25, none, .mv false (.s 0)⟩,
 ⟨some 26, none, .bin .shr (.s 25) (.c (u64 16))⟩,
 ⟨some 27, none, .bin .add (.s 24) (.s 26)⟩,
 ⟨some 0, none, .mv false (.s 27)⟩]) (
 .seq (
 .region [0] [] [
 ⟨some 28, none, .mv false (.s 0)⟩,
 ⟨some 29, none, .mv false (.s 0)⟩,
 ⟨some 30, none, .bin .shr (.s 29) (.c (u64 32))⟩,
 ⟨some 31, none, .bin .add (.s 28) (.s 30)⟩,
 ⟨some 0, none, .mv false (.s 31)⟩]) (
 .seq (
 .region [2] [] [
 ⟨some 32, none, .mv false (.s 0)⟩,
 ⟨some 33, none, .toInt .i64 (.s 32)⟩,
 ⟨some 34, none, .bin .and (.s 33) (.c (i64 127))⟩,
 ⟨some 2, none, .mv false (.s 34)⟩]) (
 .ret)))))))) }

end Go.Abs
end

section
namespace Go.Abs
set_option maxRecDepth 100000
def f_merkle_VerifyPrefix_r2 : ACode :=
 .region [2, 3, 5, 6, 11, 12] [] [
 ⟨some 40, none, .mv false (.s 2)⟩,
 ⟨some 41, none, .mv false (.s 13)⟩,
 ⟨some 42, none, .bin .sub (.s 40) (.s 41)⟩,
 ⟨some 43, none, .mv false (.s 3)⟩,
 ⟨some 44, none, .mv false (.s 13)⟩,
 ⟨some 45, none, .bin .sub (.s 43) (.s 44)⟩,
 ⟨some 2, none, .mv false (.s 42)⟩,
 ⟨some 3, none, .mv false (.s 45)⟩,
 ⟨some 12, none, .mv false (.c (bo false))⟩]
def f_merkle_VerifyPrefix_r1 : ACode :=
 .block 1 (
 .seq (
 .region [2, 3, 5, 6, 11, 12, 13] [] [
 ⟨some 28, none, .mv false (.s 3)⟩,
 ⟨some 29, none, .call 167 [(.s 28)] []⟩,
 ⟨some 13, none, .mv false (.s 29)⟩]) (
 .seq (
 .region [2, 3, 5, 6, 11, 12, 13] [] [
 ⟨some 30, none, .mv true (.s 11)⟩,
 ⟨some 31, none, .mv false (.s 2)⟩,
 ⟨some 32, none, .mv false (.s 13)⟩,
 ⟨some 33, none, .bin .gtr (.s 31) (.s 32)⟩,
 ⟨some 34, none, .buildSl 1 1 [bo false] [(0, 1, (.s 33))]⟩,
 ⟨some 35, none, .append 1 1 false none none 30 (.s 34)⟩,
 ⟨some 11, none, .mv true (.s 35)⟩]) (
 .seq (
 .seq (
 .region [2, 3, 5, 6, 11, 12, 13, 38] [] [
 ⟨some 36, none, .mv false (.s 2)⟩,
 ⟨some 37, none, .mv false (.s 13)⟩,
 ⟨some 38, none, .bin .leq (.s 36) (.s 37)⟩]) (
 .cond (.s 38) (
 .seq (
 .region [2, 3, 5, 6, 11, 12] [] [
 ⟨some 39, none, .mv false (.s 13)⟩,
 ⟨some 3, none, .mv false (.s 39)⟩]) (
 .ghost (.keep [2, 3, 5, 6, 11, 12]) (.exit 1))) (
 .ghost (.keep [2, 3, 5, 6, 11, 13]) .skip))) (
 f_merkle_VerifyPrefix_r2))))
def f_merkle_VerifyPrefix_l0 : ACode :=
 .seq (
 .seq (
 .region [2, 3, 5, 6, 11, 12, 27] [] [
 ⟨some 25, none, .mv false (.s 2)⟩,
 ⟨some 26, none, .mv false (.s 3)⟩,
 ⟨some 27, none, .bin .lss (.s 25) (.s 26)⟩]) (
 .cond (.s 27) (
 .ghost (.keep [2, 3, 5, 6, 11, 12]) .skip) (
 .ghost (.keep [5, 6, 11, 12]) (.exit 0)))) (
 f_merkle_VerifyPrefix_r1)
def f_merkle_VerifyPrefix_r4 : ACode :=
 .region [4, 5, 6, 11, 14] [.norm [5, 6, 14]] [
 ⟨some 54, none, .mv false (.s 4)⟩,
 ⟨some 55, none, .idxSl 16 (.s 54) (.c (i64 0))⟩,
 ⟨some 56, none, .load (some 16) none false (.s 55)⟩,
 ⟨some 57, none, .mv false (.s 4)⟩,
 ⟨some 58, none, .slSl 16 (.s 57) (some (.c (i64 1))) none none⟩,
 ⟨none, none, .store (some 16) 14 false (.s 14) (.s 56)⟩,
 ⟨some 4, none, .mv true (.s 58)⟩]
def f_merkle_VerifyPrefix_r7 : ACode :=
 .seq (
 .block 3 (
 .seq (
 .region [5, 6, 11, 14, 15, 16, 17, 65, 66, 67] [.norm [5, 6, 14, 15, 17]] [
 ⟨some 69, none, .mv false (.s 67)⟩,
 ⟨some 70, none, .idxSl 16 (.s 65) (.s 67)⟩,
 ⟨some 71, none, .load (some 16) none false (.s 70)⟩,
 ⟨some 17, none, .alloc 17 (bys (zeros 16))⟩,
 ⟨some 16, none, .mv false (.s 69)⟩,
 ⟨none, none, .store (some 16) 17 false (.s 17) (.s 71)⟩]) (
 .seq (
 .region [5, 6, 11, 14, 15, 17, 65, 66, 67, 75] [.norm [5, 6, 14, 15, 17]] [
 ⟨some 72, none, .mv false (.s 11)⟩,
 ⟨some 73, none, .mv false (.s 16)⟩,
 ⟨some 74, none, .idxSl 1 (.s 72) (.s 73)⟩,
 ⟨some 75, none, .load none none false (.s 74)⟩]) (
 .cond (.s 75) (
 .region [5, 6, 11, 14, 15, 65, 66, 67] [.norm [5, 6, 14, 15, 17]] [
 ⟨some 76, none, .load (some 16) (some 17) false (.s 17)⟩,
 ⟨some 77, none, .load (some 16) (some 14) false (.s 14)⟩,
 ⟨some 78, none, .call 169 [(.s 76), (.s 77)] []⟩,
 ⟨some 79, none, .call 165 [(.s 78)] []⟩,
 ⟨some 80, none, .load (some 16) (some 17) false (.s 17)⟩,
 ⟨some 81, none, .load (some 16) (some 15) false (.s 15)⟩,
 ⟨some 82, none, .call 169 [(.s 80), (.s 81)] []⟩,
 ⟨some 83, none, .call 165 [(.s 82)] []⟩,
 ⟨none, none, .store (some 16) 14 false (.s 14) (.s 79)⟩,
 ⟨none, none, .store (some 16) 15 false (.s 15) (.s 83)⟩]) (
 .region [5, 6, 11, 14, 15, 65, 66, 67] [.norm [5, 6, 14, 15, 17]] [
 ⟨some 84, none, .load (some 16) (some 15) false (.s 15)⟩,
 ⟨some 85, none, .load (some 16) (some 17) false (.s 17)⟩,
 ⟨some 86, none, .call 169 [(.s 84), (.s 85)] []⟩,
 ⟨some 87, none, .call 165 [(.s 86)] []⟩,
 ⟨none, none, .store (some 16) 15 false (.s 15) (.s 87)⟩]))))) (
 .region [5, 6, 11, 14, 15, 65, 66, 67] [.drop [17]] [
 ⟨some 88, none, .bin .add (.s 67) (.c (i64 1))⟩,
 ⟨some 67, none, .mv false (.s 88)⟩])
def f_merkle_VerifyPrefix_l1 : ACode :=
 .seq (
 .region [5, 6, 11, 14, 15, 65, 66, 67, 68] [] [
 ⟨some 68, none, .bin .lss (.s 67) (.s 66)⟩]) (
 .seq (
 .cond (.s 68) (
 .ghost (.keep [5, 6, 11, 14, 15, 65, 66, 67]) .skip) (
 .ghost (.keep [5, 6, 14, 15]) (.exit 2))) (
 f_merkle_VerifyPrefix_r7))
def f_merkle_VerifyPrefix_r8 : ACode :=
 .seq (
 .region [10] [.norm [5, 6, 14, 15, 17]] [
 ⟨some 89, none, .load (some 16) (some 14) false (.s 14)⟩,
 ⟨some 90, none, .load (some 16) (some 5) false (.s 5)⟩,
 ⟨some 91, none, .eqF (ks8 16) false (.s 89) (.s 90)⟩,
 ⟨some 92, none, .mv false (.s 91)⟩,
 ⟨some 93, (some (92, true)), .load (some 16) (some 15) false (.s 15)⟩,
 ⟨some 94, (some (92, true)), .load (some 16) (some 6) false (.s 6)⟩,
 ⟨some 95, (some (92, true)), .eqF (ks8 16) false (.s 93) (.s 94)⟩,
 ⟨some 96, none, .pick (.s 92) (.s 95) (.c (bo false))⟩,
 ⟨some 10, none, .mv false (.s 96)⟩]) (
 .ret)
def f_merkle_VerifyPrefix_r6 : ACode :=
 .seq (
 .region [4, 5, 6, 11, 14, 15] [.norm [5, 6, 14, 15]] [
 ⟨some 64, none, .load (some 16) (some 14) false (.s 14)⟩,
 ⟨some 15, none, .alloc 15 (bys (zeros 16))⟩,
 ⟨none, none, .store (some 16) 15 false (.s 15) (.s 64)⟩]) (
 .seq (
 .seq (
 .region [5, 6, 11, 14, 15, 65, 66, 67] [] [
 ⟨some 65, none, .mv true (.s 4)⟩,
 ⟨some 66, none, .len false (.s 65)⟩,
 ⟨some 67, none, .mv false (.c (i64 0))⟩]) (
 .block 2 (
 .loop f_merkle_VerifyPrefix_l1))) (
 f_merkle_VerifyPrefix_r8))
def f_merkle_VerifyPrefix_r5 : ACode :=
 .seq (
 .seq (
 .region [4, 5, 6, 11, 14, 63] [] [
 ⟨some 59, none, .mv false (.s 4)⟩,
 ⟨some 60, none, .len false (.s 59)⟩,
 ⟨some 61, none, .mv false (.s 11)⟩,
 ⟨some 62, none, .len false (.s 61)⟩,
 ⟨some 63, none, .bin .neq (.s 60) (.s 62)⟩]) (
 .cond (.s 63) (
 .seq (
 .region [10] [] [
 ⟨some 10, none, .mv false (.c (bo false))⟩]) (
 .ret)) (
 .ghost (.keep [4, 5, 6, 11, 14]) .skip))) (
 f_merkle_VerifyPrefix_r6)
def f_merkle_VerifyPrefix_r3 : ACode :=
 .seq (
 .alt (
 .ghost (.thaw 11 911) (
 .region [5, 6, 11, 12] [.norm [5, 6, 911], .freeze [911]] [
 ⟨some 46, none, .mv false (.s 11)⟩,
 ⟨some 47, none, .callw 174 none [(.s 46)] [(0, 911)] []⟩])) (
 .region [5, 6, 11, 12] [] [
 ⟨some 46, none, .mv false (.s 11)⟩,
 ⟨some 47, none, .call 175 [(.s 46)] []⟩])) (
 .ghost (.unorg 4) (.seq (
 .region [4, 5, 6, 11, 12, 14] [.norm [5, 6, 14]] [
 ⟨some 48, none, .load (some 16) (some 5) false (.s 5)⟩,
 ⟨some 14, none, .alloc 14 (bys (zeros 16))⟩,
 ⟨none, none, .store (some 16) 14 false (.s 14) (.s 48)⟩]) (
 .seq (
 .seq (
 .region [4, 5, 6, 11, 14, 50] [] [
 ⟨some 49, none, .mv false (.s 12)⟩,
 ⟨some 50, none, .un .not (.s 49)⟩]) (
 .cond (.s 50) (
 .seq (
 .seq (
 .region [4, 5, 6, 11, 14, 53] [] [
 ⟨some 51, none, .mv false (.s 4)⟩,
 ⟨some 52, none, .len false (.s 51)⟩,
 ⟨some 53, none, .bin .eql (.s 52) (.c (i64 0))⟩]) (
 .cond (.s 53) (
 .seq (
 .region [10] [] [
 ⟨some 10, none, .mv false (.c (bo false))⟩]) (
 .ret)) (
 .ghost (.keep [4, 5, 6, 11, 14]) .skip))) (
 f_merkle_VerifyPrefix_r4)) (
 .ghost (.keep [4, 5, 6, 11, 14]) .skip))) (
 f_merkle_VerifyPrefix_r5))))
def f_merkle_VerifyPrefix_r0 : ACode :=
 .seq (
 .region [2, 3, 5, 6, 11] [] [
 ⟨some 11, none, .mv true (.c (.sl (.own 1) none 0 []))⟩]) (
 .seq (
 .region [2, 3, 5, 6, 11, 12] [] [
 ⟨some 12, none, .mv false (.c (bo true))⟩]) (
 .seq (
 .block 0 (
 .loop f_merkle_VerifyPrefix_l0)) (
 f_merkle_VerifyPrefix_r3)))
def f_merkle_VerifyPrefix : AFun :=
 { n := 5, wr := [2, 3], res := [.t 10], body :=
 .seq (
 .region [2, 3, 5, 6] [.norm [5, 6]] [
 ⟨some 5, none, .box 5 (some 16) false (.s 0)⟩,
 ⟨some 6, none, .box 6 (some 16) false (.s 1)⟩,
 ⟨some 10, none, .mv false (.c (bo false))⟩]) (
 .seq (
 .seq (
 .region [2, 3, 5, 6, 24] [] [
 ⟨some 18, none, .mv false (.s 2)⟩,
 ⟨some 19, none, .bin .lss (.s 18) (.c (i64 1))⟩,
 ⟨some 20, none, .mv false (.s 19)⟩,
 ⟨some 21, (some (20, false)), .mv false (.s 2)⟩,
 ⟨some 22, (some (20, false)), .mv false (.s 3)⟩,
 ⟨some 23, (some (20, false)), .bin .gtr (.s 21) (.s 22)⟩,
 ⟨some 24, none, .pick (.s 20) (.c (bo true)) (.s 23)⟩]) (
 .cond (.s 24) (
 .seq (
 .region [10] [] [
 ⟨some 10, none, .mv false (.c (bo false))⟩]) (
 .ret)) (
 .ghost (.keep [2, 3, 5, 6]) .skip))) (
 f_merkle_VerifyPrefix_r0)) }


def f_merkle_Add_r1 : ACode :=
 .seq (
 .block 1 (
 .seq (
 .region [2, 4, 6, 7, 8, 28, 29] [] [
 ⟨some 31, none, .mv false (.s 6)⟩,
 ⟨some 32, none, .len false (.s 31)⟩,
 ⟨some 33, none, .bin .sub (.s 32) (.c (i64 1))⟩,
 ⟨some 8, none, .mv false (.s 33)⟩]) (
 .region [2, 4, 6, 7, 28, 29] [.norm [2, 3, 4, 7]] [
 ⟨some 34, none, .mv false (.s 6)⟩,
 ⟨some 35, none, .mv false (.s 8)⟩,
 ⟨some 36, none, .slSl 16 (.s 34) none (some (.s 35)) none⟩,
 ⟨some 37, none, .mv false (.s 6)⟩,
 ⟨some 38, none, .mv false (.s 8)⟩,
 ⟨some 39, none, .idxSl 16 (.s 37) (.s 38)⟩,
 ⟨some 40, none, .load (some 16) none false (.s 39)⟩,
 ⟨some 41, none, .load (some 16) (some 7) false (.s 7)⟩,
 ⟨some 42, none, .call 169 [(.s 40), (.s 41)] []⟩,
 ⟨some 43, none, .call 165 [(.s 42)] []⟩,
 ⟨some 6, none, .mv true (.s 36)⟩,
 ⟨none, none, .store (some 16) 7 false (.s 7) (.s 43)⟩]))) (
 .region [2, 4, 6, 7, 28, 29] [] [
 ⟨some 44, none, .bin .add (.s 29) (.c (i64 1))⟩,
 ⟨some 29, none, .mv false (.s 44)⟩])
def f_merkle_Add_l0 : ACode :=
 .seq (
 .region [2, 4, 6, 7, 28, 29, 30] [] [
 ⟨some 30, none, .bin .lss (.s 29) (.s 28)⟩]) (
 .seq (
 .cond (.s 30) (
 .ghost (.keep [2, 4, 6, 7, 28, 29]) .skip) (
 .ghost (.keep [2, 4, 6, 7]) (.exit 0))) (
 f_merkle_Add_r1))
def f_merkle_Add_r2 : ACode :=
 .seq (
 .region [4, 5] [.norm [2, 3, 4, 7]] [
 ⟨some 45, none, .fieldAddr 0 (.s 2)⟩,
 ⟨some 46, none, .load none (some 2) false (.s 45)⟩,
 ⟨some 47, none, .bin .add (.s 46) (.c (i64 1))⟩,
 ⟨some 48, none, .mv true (.s 6)⟩,
 ⟨some 49, none, .load (some 16) (some 7) false (.s 7)⟩,
 ⟨some 50, none, .buildSl 16 1 (bys (zeros 16)) [(0, 16, (.s 49))]⟩,
 ⟨some 51, none, .append 16 16 false none none 48 (.s 50)⟩,
 ⟨some 52, none, .build [i64 0, .sl .plain none 0 []] [(0, 1, (.s 47)), (1, 1, (.s 51))]⟩,
 ⟨none, none, .store (some 2) 4 false (.s 4) (.s 52)⟩,
 ⟨some 5, none, .mv false (.c (i64 0))⟩]) (
 .ret)
def f_merkle_Add_q : ACode :=
 .seq (
 .region [2, 4, 6, 7] [.norm [2, 3, 4, 7]] [
 ⟨some 21, none, .load (some 16) (some 3) false (.s 3)⟩,
 ⟨some 22, none, .call 166 [(.s 21)] []⟩,
 ⟨some 23, none, .call 165 [(.s 22)] []⟩,
 ⟨some 7, none, .alloc 7 (bys (zeros 16))⟩,
 ⟨none, none, .store (some 16) 7 false (.s 7) (.s 23)⟩]) (
 .seq (
 .seq (
 .region [2, 4, 6, 7, 28, 29] [.norm [2, 3, 4, 7]] [
 ⟨some 24, none, .fieldAddr 0 (.s 2)⟩,
 ⟨some 25, none, .load none (some 2) false (.s 24)⟩,
 ⟨some 26, none, .toInt .u64 (.s 25)⟩,
 ⟨some 27, none, .un .xor (.s 26)⟩,
 ⟨some 28, none, .call 181 [(.s 27)] []⟩,
 ⟨some 29, none, .mv false (.c (i64 0))⟩]) (
 .block 0 (
 .loop f_merkle_Add_l0))) (
 f_merkle_Add_r2))
def f_merkle_Add_tr1 : ACode :=
 .seq (
 .block 1 (
 .seq (
 .region [2, 4, 6, 7, 8, 28, 29] [] [
 ⟨some 31, none, .mv false (.s 6)⟩,
 ⟨some 32, none, .len false (.s 31)⟩,
 ⟨some 33, none, .bin .sub (.s 32) (.c (i64 1))⟩,
 ⟨some 8, none, .mv false (.s 33)⟩]) (
 .region [2, 4, 6, 7, 28, 29] [.norm [2, 3, 4, 7, 906]] [
 ⟨some 34, none, .mv false (.s 6)⟩,
 ⟨some 35, none, .mv false (.s 8)⟩,
 ⟨some 36, none, .slSl 16 (.s 34) none (some (.s 35)) none⟩,
 ⟨some 37, none, .mv false (.s 6)⟩,
 ⟨some 38, none, .mv false (.s 8)⟩,
 ⟨some 39, none, .idxSl 16 (.s 37) (.s 38)⟩,
 ⟨some 40, none, .load (some 16) (some 906) false (.s 39)⟩,
 ⟨some 41, none, .load (some 16) (some 7) false (.s 7)⟩,
 ⟨some 42, none, .call 169 [(.s 40), (.s 41)] []⟩,
 ⟨some 43, none, .call 165 [(.s 42)] []⟩,
 ⟨some 6, none, .mv true (.s 36)⟩,
 ⟨none, none, .store (some 16) 7 false (.s 7) (.s 43)⟩]))) (
 .region [2, 4, 6, 7, 28, 29] [] [
 ⟨some 44, none, .bin .add (.s 29) (.c (i64 1))⟩,
 ⟨some 29, none, .mv false (.s 44)⟩])
def f_merkle_Add_tl0 : ACode :=
 .seq (
 .region [2, 4, 6, 7, 28, 29, 30] [] [
 ⟨some 30, none, .bin .lss (.s 29) (.s 28)⟩]) (
 .seq (
 .cond (.s 30) (
 .ghost (.keep [2, 4, 6, 7, 28, 29]) .skip) (
 .ghost (.keep [2, 4, 6, 7]) (.exit 0))) (
 f_merkle_Add_tr1))
def f_merkle_Add_tr2 : ACode :=
 .seq (
 .region [4, 5] [.norm [2, 3, 4, 7, 906], .freeze [906]] [
 ⟨some 45, none, .fieldAddr 0 (.s 2)⟩,
 ⟨some 46, none, .load none (some 2) false (.s 45)⟩,
 ⟨some 47, none, .bin .add (.s 46) (.c (i64 1))⟩,
 ⟨some 48, none, .mv true (.s 6)⟩,
 ⟨some 49, none, .load (some 16) (some 7) false (.s 7)⟩,
 ⟨some 50, none, .buildSl 16 1 (bys (zeros 16)) [(0, 16, (.s 49))]⟩,
 ⟨some 51, none, .appendB 16 16 false 906 none (.s 48) (.s 50)⟩,
 ⟨some 52, none, .build [i64 0, .sl .plain none 0 []] [(0, 1, (.s 47)), (1, 1, (.s 51))]⟩,
 ⟨none, none, .store (some 2) 4 false (.s 4) (.s 52)⟩,
 ⟨some 5, none, .mv false (.c (i64 0))⟩]) (
 .ret)
def f_merkle_Add_tq : ACode :=
 .seq (
 .region [2, 4, 6, 7] [.norm [2, 3, 4, 7, 906]] [
 ⟨some 21, none, .load (some 16) (some 3) false (.s 3)⟩,
 ⟨some 22, none, .call 166 [(.s 21)] []⟩,
 ⟨some 23, none, .call 165 [(.s 22)] []⟩,
 ⟨some 7, none, .alloc 7 (bys (zeros 16))⟩,
 ⟨none, none, .store (some 16) 7 false (.s 7) (.s 23)⟩]) (
 .seq (
 .seq (
 .region [2, 4, 6, 7, 28, 29] [.norm [2, 3, 4, 7, 906]] [
 ⟨some 24, none, .fieldAddr 0 (.s 2)⟩,
 ⟨some 25, none, .load none (some 2) false (.s 24)⟩,
 ⟨some 26, none, .toInt .u64 (.s 25)⟩,
 ⟨some 27, none, .un .xor (.s 26)⟩,
 ⟨some 28, none, .call 181 [(.s 27)] []⟩,
 ⟨some 29, none, .mv false (.c (i64 0))⟩]) (
 .block 0 (
 .loop f_merkle_Add_tl0))) (
 f_merkle_Add_tr2))
def f_merkle_Add_r0 : ACode :=
 .seq (
 .region [2, 3, 4, 6] [.norm [2, 3, 4]] [
 ⟨some 18, none, .fieldAddr 1 (.s 2)⟩,
 ⟨some 19, none, .load none (some 2) false (.s 18)⟩,
 ⟨some 20, none, .call 180 [(.s 19)] []⟩,
 ⟨some 6, none, .mv true (.s 20)⟩]) (
 .alt (.ghost (.hideB 2 1) (.ghost (.norm [2, 3, 4]) (.ghost (.thaw 6 906) f_merkle_Add_tq))) f_merkle_Add_q)
def f_merkle_Add : AFun :=
 { n := 2, wr := [], res := [.cell 4 (some 2) 4, .t 5], body :=
 .seq (
 .region [2, 3, 4] [.norm [2, 3, 4]] [
 ⟨some 2, none, .box 2 (some 2) false (.s 0)⟩,
 ⟨some 3, none, .box 3 (some 16) false (.s 1)⟩,
 ⟨some 4, none, .alloc 4 [i64 0, .sl (.own 16) none 0 []]⟩,
 ⟨some 5, none, .mv false (.c (i64 0))⟩]) (
 .seq (
 .seq (
 .region [2, 3, 4, 16] [.norm [2, 3, 4]] [
 ⟨some 9, none, .load (some 2) (some 2) false (.s 2)⟩,
 ⟨some 10, none, .call 179 [(.s 9)] []⟩,
 ⟨some 11, none, .un .not (.s 10)⟩,
 ⟨some 12, none, .mv false (.s 11)⟩,
 ⟨some 13, (some (12, false)), .fieldAddr 0 (.s 2)⟩,
 ⟨some 14, (some (12, false)), .load none (some 2) false (.s 13)⟩,
 ⟨some 15, (some (12, false)), .bin .eql (.s 14) (.c (i64 4294967296))⟩,
 ⟨some 16, none, .pick (.s 12) (.c (bo true)) (.s 15)⟩]) (
 .cond (.s 16) (
 .seq (
 .region [4, 5] [.norm [2, 3, 4]] [
 ⟨some 17, none, .build [i64 0, .sl .plain none 0 []] []⟩,
 ⟨none, none, .store (some 2) 4 false (.s 4) (.s 17)⟩,
 ⟨some 5, none, .mv false (.c (i64 1))⟩]) (
 .ret)) (
 .ghost (.keep [2, 3, 4]) .skip))) (
 f_merkle_Add_r0)) }


def f_merkle_Top_a0 : ACode :=
 .region [2, 5, 7] [.norm [1, 2, 5, 7]] [
 ⟨some 7, none, .alloc 7 (bys (zeros 16))⟩,
 ⟨none, none, .store (some 16) 7 false (.s 7) (.s 31)⟩]
def f_merkle_Top_b0 : ACode :=
 .block 1 (
 .region [2, 5] [.norm [1, 2, 5, 7], .drop [7]] [
 ⟨some 32, none, .load (some 16) (some 7) false (.s 7)⟩,
 ⟨some 33, none, .load (some 16) (some 5) false (.s 5)⟩,
 ⟨some 34, none, .call 169 [(.s 32), (.s 33)] []⟩,
 ⟨some 35, none, .call 165 [(.s 34)] []⟩,
 ⟨none, none, .store (some 16) 5 false (.s 5) (.s 35)⟩])
def f_merkle_Top_r2 : ACode :=
 .seq (
 .region [2, 3] [.norm [1, 2, 5, 7]] [
 ⟨some 36, none, .load (some 16) (some 5) false (.s 5)⟩,
 ⟨none, none, .store (some 16) 2 false (.s 2) (.s 36)⟩,
 ⟨some 3, none, .mv false (.c (i64 0))⟩]) (
 .ret)
def f_merkle_Top_r1 : ACode :=
 .seq (
 .region [2, 4] [.norm [1, 2]] [
 ⟨some 16, none, .fieldAddr 1 (.s 1)⟩,
 ⟨some 17, none, .load none (some 1) false (.s 16)⟩,
 ⟨some 4, none, .mv true (.s 17)⟩]) (
 .seq (
 .region [2, 4, 5] [.norm [1, 2, 5]] [
 ⟨some 18, none, .mv false (.s 4)⟩,
 ⟨some 19, none, .mv false (.s 4)⟩,
 ⟨some 20, none, .len false (.s 19)⟩,
 ⟨some 21, none, .bin .sub (.s 20) (.c (i64 1))⟩,
 ⟨some 22, none, .idxSl 16 (.s 18) (.s 21)⟩,
 ⟨some 23, none, .load (some 16) none false (.s 22)⟩,
 ⟨some 5, none, .alloc 5 (bys (zeros 16))⟩,
 ⟨none, none, .store (some 16) 5 false (.s 5) (.s 23)⟩]) (
 .seq (
 .seq (
 .region [2, 5, 29] [.norm [1, 2, 5, 29], .freeze [29]] [
 ⟨some 24, none, .mv false (.s 4)⟩,
 ⟨some 25, none, .mv true (.s 4)⟩,
 ⟨some 26, none, .len false (.s 25)⟩,
 ⟨some 27, none, .bin .sub (.s 26) (.c (i64 1))⟩,
 ⟨some 28, none, .slSl 16 (.s 24) none (some (.s 27)) none⟩,
 ⟨some 29, none, .callm 183 none [(.s 28)] [] [(1, 29)]⟩]) (
 .block 0 (
 .range 184 (.s 29) [2, 5] [30, 31] (
 f_merkle_Top_a0) (
 f_merkle_Top_b0)))) (
 f_merkle_Top_r2)))
def f_merkle_Top_r0 : ACode :=
 .seq (
 .seq (
 .region [1, 2, 14] [.norm [1, 2]] [
 ⟨some 12, none, .fieldAddr 0 (.s 1)⟩,
 ⟨some 13, none, .load none (some 1) false (.s 12)⟩,
 ⟨some 14, none, .bin .eql (.s 13) (.c (i64 0))⟩]) (
 .cond (.s 14) (
 .seq (
 .region [2, 3] [.norm [1, 2]] [
 ⟨some 15, none, .call 168 [(.c (.sl .plain (some true) 0 []))] []⟩,
 ⟨none, none, .store (some 16) 2 false (.s 2) (.s 15)⟩,
 ⟨some 3, none, .mv false (.c (i64 0))⟩]) (
 .ret)) (
 .ghost (.keep [1, 2]) .skip))) (
 f_merkle_Top_r1)
def f_merkle_Top : AFun :=
 { n := 1, wr := [], res := [.cell 2 (some 16) 2, .t 3], body :=
 .seq (
 .region [1, 2] [.norm [1, 2]] [
 ⟨some 1, none, .box 1 (some 2) false (.s 0)⟩,
 ⟨some 2, none, .alloc 2 (bys (zeros 16))⟩,
 ⟨some 3, none, .mv false (.c (i64 0))⟩]) (
 .seq (
 .seq (
 .region [1, 2, 10] [.norm [1, 2]] [
 ⟨some 8, none, .load (some 2) (some 1) false (.s 1)⟩,
 ⟨some 9, none, .call 179 [(.s 8)] []⟩,
 ⟨some 10, none, .un .not (.s 9)⟩]) (
 .cond (.s 10) (
 .seq (
 .region [2, 3] [.norm [1, 2]] [
 ⟨some 11, none, .build (bys (zeros 16)) []⟩,
 ⟨none, none, .store (some 16) 2 false (.s 2) (.s 11)⟩,
 ⟨some 3, none, .mv false (.c (i64 1))⟩]) (
 .ret)) (
 .ghost (.keep [1, 2]) .skip))) (
 f_merkle_Top_r0)) }


def f_slices_CloneN_r0 : ACode :=
 .seq (
 .region [2] [] [
 ⟨some 5, none, .buildSl 16 0 [] []⟩,
 ⟨some 6, none, .mv false (.s 0)⟩,
 ⟨some 7, none, .append 16 16 false none none 5 (.s 6)⟩,
 ⟨some 2, none, .mv true (.s 7)⟩]) (
 .ret)
def f_slices_CloneN : AFun :=
 { n := 1, wr := [], res := [.t 2], body :=
 .seq (
 .region [] [] [
 ⟨some 2, none, .mv true (.c (.sl (.own 16) none 0 []))⟩]) (
 .seq (
 .seq (
 .region [4] [] [
 ⟨some 3, none, .mv false (.s 0)⟩,
 ⟨some 4, none, .eqnil false (.s 3) (.c (.lit (.slice none 0 0)))⟩]) (
 .cond (.s 4) (
 .seq (
 .region [2] [] [
 ⟨some 2, none, .mv true (.c (.sl (.own 16) none 0 []))⟩]) (
 .ret)) (
 .ghost (.keep []) .skip))) (
 f_slices_CloneN_r0)) }
end Go.Abs
end

section
namespace Go.Abs
set_option maxRecDepth 100000
def f_custodyref08_Inputs_r3 : ACode :=
 .seq (
 .region [8, 9] [.norm [6, 10]] [
 ⟨some 63, none, .mv true (.s 13)⟩,
 ⟨some 64, none, .mv false (.s 13)⟩,
 ⟨some 65, none, .mv false (.s 13)⟩,
 ⟨some 66, none, .len false (.s 65)⟩,
 ⟨some 67, none, .bin .sub (.s 66) (.c (i64 1))⟩,
 ⟨some 68, none, .idxSl 1 (.s 64) (.s 67)⟩,
 ⟨some 69, none, .load none none false (.s 68)⟩,
 ⟨some 70, none, .call 28 [(.s 69)] []⟩,
 ⟨some 71, none, .call 23 [(.s 70)] []⟩,
 ⟨some 72, none, .load (some 16) (some 10) false (.s 10)⟩,
 ⟨some 73, none, .call 23 [(.s 72)] []⟩,
 ⟨some 74, none, .buildSl 1 2 [st [], st []] [(0, 1, (.s 71)), (1, 1, (.s 73))]⟩,
 ⟨some 75, none, .call 21 [(.c (i64 2)), (.s 74)] []⟩,
 ⟨some 76, none, .buildSl 1 1 [.sl .plain none 0 []] [(0, 1, (.s 75))]⟩,
 ⟨some 77, none, .append 1 24 false none none 63 (.s 76)⟩,
 ⟨some 8, none, .mv true (.s 77)⟩,
 ⟨some 9, none, .mv false (.c (bo true))⟩]) (
 .ret)
def f_custodyref08_Inputs_r5 : ACode :=
 .seq (
 .region [8, 9] [.norm [6, 10]] [
 ⟨some 92, none, .mv true (.s 15)⟩,
 ⟨some 93, none, .load (some 16) (some 10) false (.s 10)⟩,
 ⟨some 94, none, .call 23 [(.s 93)] []⟩,
 ⟨some 95, none, .mv false (.s 15)⟩,
 ⟨some 96, none, .mv false (.s 15)⟩,
 ⟨some 97, none, .len false (.s 96)⟩,
 ⟨some 98, none, .bin .sub (.s 97) (.c (i64 1))⟩,
 ⟨some 99, none, .idxSl 1 (.s 95) (.s 98)⟩,
 ⟨some 100, none, .load none none false (.s 99)⟩,
 ⟨some 101, none, .call 28 [(.s 100)] []⟩,
 ⟨some 102, none, .call 23 [(.s 101)] []⟩,
 ⟨some 103, none, .buildSl 1 2 [st [], st []] [(0, 1, (.s 94)), (1, 1, (.s 102))]⟩,
 ⟨some 104, none, .call 21 [(.c (i64 2)), (.s 103)] []⟩,
 ⟨some 105, none, .buildSl 1 1 [.sl .plain none 0 []] [(0, 1, (.s 104))]⟩,
 ⟨some 106, none, .append 1 24 false none none 92 (.s 105)⟩,
 ⟨some 8, none, .mv true (.s 106)⟩,
 ⟨some 9, none, .mv false (.c (bo true))⟩]) (
 .ret)
def f_custodyref08_Inputs_r4 : ACode :=
 .seq (
 .region [10, 15, 16] [.norm [6, 10]] [
 ⟨some 79, none, .mv false (.s 0)⟩,
 ⟨some 80, none, .mv false (.s 12)⟩,
 ⟨some 81, none, .bin .sub (.s 79) (.s 80)⟩,
 ⟨some 82, none, .mv false (.s 1)⟩,
 ⟨some 83, none, .mv false (.s 12)⟩,
 ⟨some 84, none, .bin .sub (.s 82) (.s 83)⟩,
 ⟨some 85, none, .load (some 16) (some 6) false (.s 6)⟩,
 ⟨some 86, none, .mv true (.s 11)⟩,
 ⟨some 87, none, .call 203 [(.s 81), (.s 84), (.s 85), (.s 86)] []⟩,
 ⟨some 78, none, .mv true (.s 87)⟩,
 ⟨some 88, none, .extractO 78⟩,
 ⟨some 89, none, .extract 1 (.s 78)⟩,
 ⟨some 15, none, .mv true (.s 88)⟩,
 ⟨some 16, none, .mv false (.s 89)⟩]) (
 .seq (
 .seq (
 .region [10, 15, 91] [] [
 ⟨some 90, none, .mv false (.s 16)⟩,
 ⟨some 91, none, .un .not (.s 90)⟩]) (
 .cond (.s 91) (
 .seq (
 .region [8, 9] [] [
 ⟨some 8, none, .mv true (.c (.sl (.own 1) none 0 []))⟩,
 ⟨some 9, none, .mv false (.c (bo false))⟩]) (
 .ret)) (
 .ghost (.keep [10, 15]) .skip))) (
 f_custodyref08_Inputs_r5))
def f_custodyref08_Inputs_r2 : ACode :=
 .seq (
 .region [6, 10] [.norm [6, 10]] [
 ⟨some 37, none, .mv false (.s 3)⟩,
 ⟨some 38, none, .mv false (.s 3)⟩,
 ⟨some 39, none, .len false (.s 38)⟩,
 ⟨some 40, none, .bin .sub (.s 39) (.c (i64 1))⟩,
 ⟨some 41, none, .idxSl 16 (.s 37) (.s 40)⟩,
 ⟨some 42, none, .load (some 16) none false (.s 41)⟩,
 ⟨some 10, none, .alloc 10 (bys (zeros 16))⟩,
 ⟨none, none, .store (some 16) 10 false (.s 10) (.s 42)⟩]) (
 .seq (
 .region [6, 10, 11] [] [
 ⟨some 43, none, .mv false (.s 3)⟩,
 ⟨some 44, none, .mv false (.s 3)⟩,
 ⟨some 45, none, .len false (.s 44)⟩,
 ⟨some 46, none, .bin .sub (.s 45) (.c (i64 1))⟩,
 ⟨some 47, none, .slSl 16 (.s 43) none (some (.s 46)) none⟩,
 ⟨some 11, none, .mv true (.s 47)⟩]) (
 .seq (
 .region [6, 10, 11, 12] [] [
 ⟨some 48, none, .mv false (.s 0)⟩,
 ⟨some 49, none, .call 195 [(.s 48)] []⟩,
 ⟨some 12, none, .mv false (.s 49)⟩]) (
 .seq (
 .seq (
 .region [6, 10, 11, 12, 52] [] [
 ⟨some 50, none, .mv false (.s 1)⟩,
 ⟨some 51, none, .mv false (.s 12)⟩,
 ⟨some 52, none, .bin .lss (.s 50) (.s 51)⟩]) (
 .cond (.s 52) (
 .seq (
 .region [10, 13, 14] [.norm [6, 10]] [
 ⟨some 54, none, .mv false (.s 12)⟩,
 ⟨some 55, none, .mv false (.s 1)⟩,
 ⟨some 56, none, .load (some 16) (some 6) false (.s 6)⟩,
 ⟨some 57, none, .mv true (.s 11)⟩,
 ⟨some 58, none, .call 203 [(.s 54), (.s 55), (.s 56), (.s 57)] []⟩,
 ⟨some 53, none, .mv true (.s 58)⟩,
 ⟨some 59, none, .extractO 53⟩,
 ⟨some 60, none, .extract 1 (.s 53)⟩,
 ⟨some 13, none, .mv true (.s 59)⟩,
 ⟨some 14, none, .mv false (.s 60)⟩]) (
 .seq (
 .seq (
 .region [10, 13, 62] [] [
 ⟨some 61, none, .mv false (.s 14)⟩,
 ⟨some 62, none, .un .not (.s 61)⟩]) (
 .cond (.s 62) (
 .seq (
 .region [8, 9] [] [
 ⟨some 8, none, .mv true (.c (.sl (.own 1) none 0 []))⟩,
 ⟨some 9, none, .mv false (.c (bo false))⟩]) (
 .ret)) (
 .ghost (.keep [10, 13]) .skip))) (
 f_custodyref08_Inputs_r3))) (
 .ghost (.keep [6, 10, 11, 12]) .skip))) (
 f_custodyref08_Inputs_r4))))
def f_custodyref08_Inputs_r1 : ACode :=
 .seq (
 .seq (
 .region [6, 36] [] [
 ⟨some 34, none, .mv false (.s 3)⟩,
 ⟨some 35, none, .len false (.s 34)⟩,
 ⟨some 36, none, .bin .eql (.s 35) (.c (i64 0))⟩]) (
 .cond (.s 36) (
 .seq (
 .region [8, 9] [] [
 ⟨some 8, none, .mv true (.c (.sl (.own 1) none 0 []))⟩,
 ⟨some 9, none, .mv false (.c (bo false))⟩]) (
 .ret)) (
 .ghost (.keep [6]) .skip))) (
 f_custodyref08_Inputs_r2)
def f_custodyref08_Inputs_r0 : ACode :=
 .seq (
 .seq (
 .region [6, 25] [] [
 ⟨some 24, none, .mv false (.s 0)⟩,
 ⟨some 25, none, .bin .eql (.s 24) (.c (i64 1))⟩]) (
 .cond (.s 25) (
 .seq (
 .region [8, 9] [.norm [6]] [
 ⟨some 26, none, .load (some 16) (some 6) false (.s 6)⟩,
 ⟨some 27, none, .call 23 [(.s 26)] []⟩,
 ⟨some 28, none, .buildSl 1 1 [st []] [(0, 1, (.s 27))]⟩,
 ⟨some 29, none, .call 21 [(.c (i64 1)), (.s 28)] []⟩,
 ⟨some 30, none, .buildSl 1 1 [.sl .plain none 0 []] [(0, 1, (.s 29))]⟩,
 ⟨some 31, none, .mv false (.s 3)⟩,
 ⟨some 32, none, .len false (.s 31)⟩,
 ⟨some 33, none, .bin .eql (.s 32) (.c (i64 0))⟩,
 ⟨some 8, none, .mv true (.s 30)⟩,
 ⟨some 9, none, .mv false (.s 33)⟩]) (
 .ret)) (
 .ghost (.keep [6]) .skip))) (
 f_custodyref08_Inputs_r1)
def f_custodyref08_Inputs : AFun :=
 { n := 4, wr := [], res := [.o 8, .t 9], body :=
 .seq (
 .region [6] [.norm [6]] [
 ⟨some 6, none, .box 6 (some 16) false (.s 2)⟩,
 ⟨some 8, none, .mv true (.c (.sl (.own 1) none 0 []))⟩,
 ⟨some 9, none, .mv false (.c (bo false))⟩]) (
 .seq (
 .seq (
 .region [6, 23] [] [
 ⟨some 17, none, .mv false (.s 1)⟩,
 ⟨some 18, none, .bin .lss (.s 17) (.c (i64 0))⟩,
 ⟨some 19, none, .mv false (.s 18)⟩,
 ⟨some 20, (some (19, false)), .mv false (.s 1)⟩,
 ⟨some 21, (some (19, false)), .mv false (.s 0)⟩,
 ⟨some 22, (some (19, false)), .bin .geq (.s 20) (.s 21)⟩,
 ⟨some 23, none, .pick (.s 19) (.c (bo true)) (.s 22)⟩]) (
 .cond (.s 23) (
 .seq (
 .region [8, 9] [] [
 ⟨some 8, none, .mv true (.c (.sl (.own 1) none 0 []))⟩,
 ⟨some 9, none, .mv false (.c (bo false))⟩]) (
 .ret)) (
 .ghost (.keep [6]) .skip))) (
 f_custodyref08_Inputs_r0)) }

def f_custodyref08_PrefixInputs_r2 : ACode :=
 .seq (
 .region [11, 12, 13, 19, 20, 21] [.norm [5, 11, 12, 13, 16, 17, 20, 21]] [
 ⟨some 82, none, .load (some 16) (some 5) false (.s 5)⟩,
 ⟨some 83, none, .mv false (.s 1)⟩,
 ⟨some 84, none, .mv false (.s 14)⟩,
 ⟨some 85, none, .bin .sub (.s 83) (.s 84)⟩,
 ⟨some 86, none, .mv false (.s 2)⟩,
 ⟨some 87, none, .mv false (.s 14)⟩,
 ⟨some 88, none, .bin .sub (.s 86) (.s 87)⟩,
 ⟨some 89, none, .mv false (.s 4)⟩,
 ⟨some 90, none, .mv false (.s 4)⟩,
 ⟨some 91, none, .len false (.s 90)⟩,
 ⟨some 92, none, .bin .sub (.s 91) (.c (i64 1))⟩,
 ⟨some 93, none, .slSl 16 (.s 89) none (some (.s 92)) none⟩,
 ⟨some 94, none, .call 208 [(.s 82), (.s 85), (.s 88), (.c (bo false)), (.s 93)] []⟩,
 ⟨some 81, none, .mv true (.s 94)⟩,
 ⟨some 95, none, .extractO 81⟩,
 ⟨some 96, none, .extract 1 (.s 81)⟩,
 ⟨some 97, none, .extract 2 (.s 81)⟩,
 ⟨some 20, none, .alloc 20 (bys (zeros 16))⟩,
 ⟨some 21, none, .alloc 21 (bys (zeros 16))⟩,
 ⟨some 19, none, .mv true (.s 95)⟩,
 ⟨none, none, .store (some 16) 20 false (.s 20) (.s 96)⟩,
 ⟨none, none, .store (some 16) 21 false (.s 21) (.s 97)⟩]) (
 .seq (
 .region [11, 12, 13, 19, 21, 22] [.norm [5, 11, 12, 13, 16, 17, 20, 21]] [
 ⟨some 98, none, .load (some 16) (some 13) false (.s 13)⟩,
 ⟨some 99, none, .call 23 [(.s 98)] []⟩,
 ⟨some 100, none, .load (some 16) (some 20) false (.s 20)⟩,
 ⟨some 101, none, .call 23 [(.s 100)] []⟩,
 ⟨some 102, none, .buildSl 1 2 [st [], st []] [(0, 1, (.s 99)), (1, 1, (.s 101))]⟩,
 ⟨some 103, none, .call 21 [(.c (i64 2)), (.s 102)] []⟩,
 ⟨some 22, none, .mv true (.s 103)⟩]) (
 .seq (
 .region [11, 12, 19, 22, 23] [.norm [5, 11, 12, 13, 16, 17, 20, 21]] [
 ⟨some 104, none, .load (some 16) (some 13) false (.s 13)⟩,
 ⟨some 105, none, .call 23 [(.s 104)] []⟩,
 ⟨some 106, none, .load (some 16) (some 21) false (.s 21)⟩,
 ⟨some 107, none, .call 23 [(.s 106)] []⟩,
 ⟨some 108, none, .buildSl 1 2 [st [], st []] [(0, 1, (.s 105)), (1, 1, (.s 107))]⟩,
 ⟨some 109, none, .call 21 [(.c (i64 2)), (.s 108)] []⟩,
 ⟨some 23, none, .mv true (.s 109)⟩]) (
 .seq (
 .region [11, 12, 19, 22, 23] [] [
 ⟨some 110, none, .mv true (.s 19)⟩,
 ⟨some 111, none, .mv false (.s 22)⟩,
 ⟨some 112, none, .mv false (.s 23)⟩,
 ⟨some 113, none, .buildSl 1 2 [.sl .plain none 0 [], .sl .plain none 0 []] [(0, 1, (.s 111)), (1, 1, (.s 112))]⟩,
 ⟨some 114, none, .append 1 24 false none none 110 (.s 113)⟩,
 ⟨some 19, none, .mv true (.s 114)⟩]) (
 .seq (
 .region [10, 11, 12] [.norm [5, 11, 12, 13, 16, 17, 20, 21]] [
 ⟨some 115, none, .mv true (.s 19)⟩,
 ⟨some 116, none, .mv true (.s 22)⟩,
 ⟨some 117, none, .call 28 [(.s 116)] []⟩,
 ⟨some 118, none, .mv true (.s 23)⟩,
 ⟨some 119, none, .call 28 [(.s 118)] []⟩,
 ⟨some 10, none, .mv true (.s 115)⟩,
 ⟨none, none, .store (some 16) 11 false (.s 11) (.s 117)⟩,
 ⟨none, none, .store (some 16) 12 false (.s 12) (.s 119)⟩]) (
 .ret)))))
def f_custodyref08_PrefixInputs_r1 : ACode :=
 .seq (
 .region [5, 11, 12, 13, 14] [] [
 ⟨some 48, none, .mv false (.s 2)⟩,
 ⟨some 49, none, .call 195 [(.s 48)] []⟩,
 ⟨some 14, none, .mv false (.s 49)⟩]) (
 .seq (
 .seq (
 .region [5, 11, 12, 13, 14, 52] [] [
 ⟨some 50, none, .mv false (.s 1)⟩,
 ⟨some 51, none, .mv false (.s 14)⟩,
 ⟨some 52, none, .bin .leq (.s 50) (.s 51)⟩]) (
 .cond (.s 52) (
 .seq (
 .region [11, 12, 13, 15, 16, 17] [.norm [5, 11, 12, 13, 16, 17]] [
 ⟨some 54, none, .load (some 16) (some 5) false (.s 5)⟩,
 ⟨some 55, none, .mv false (.s 1)⟩,
 ⟨some 56, none, .mv false (.s 14)⟩,
 ⟨some 57, none, .mv false (.s 3)⟩,
 ⟨some 58, none, .mv false (.s 4)⟩,
 ⟨some 59, none, .mv false (.s 4)⟩,
 ⟨some 60, none, .len false (.s 59)⟩,
 ⟨some 61, none, .bin .sub (.s 60) (.c (i64 1))⟩,
 ⟨some 62, none, .slSl 16 (.s 58) none (some (.s 61)) none⟩,
 ⟨some 63, none, .call 208 [(.s 54), (.s 55), (.s 56), (.s 57), (.s 62)] []⟩,
 ⟨some 53, none, .mv true (.s 63)⟩,
 ⟨some 64, none, .extractO 53⟩,
 ⟨some 65, none, .extract 1 (.s 53)⟩,
 ⟨some 66, none, .extract 2 (.s 53)⟩,
 ⟨some 16, none, .alloc 16 (bys (zeros 16))⟩,
 ⟨some 17, none, .alloc 17 (bys (zeros 16))⟩,
 ⟨some 15, none, .mv true (.s 64)⟩,
 ⟨none, none, .store (some 16) 16 false (.s 16) (.s 65)⟩,
 ⟨none, none, .store (some 16) 17 false (.s 17) (.s 66)⟩]) (
 .seq (
 .region [11, 12, 15, 16, 18] [.norm [5, 11, 12, 13, 16, 17]] [
 ⟨some 67, none, .load (some 16) (some 17) false (.s 17)⟩,
 ⟨some 68, none, .call 23 [(.s 67)] []⟩,
 ⟨some 69, none, .load (some 16) (some 13) false (.s 13)⟩,
 ⟨some 70, none, .call 23 [(.s 69)] []⟩,
 ⟨some 71, none, .buildSl 1 2 [st [], st []] [(0, 1, (.s 68)), (1, 1, (.s 70))]⟩,
 ⟨some 72, none, .call 21 [(.c (i64 2)), (.s 71)] []⟩,
 ⟨some 18, none, .mv true (.s 72)⟩]) (
 .seq (
 .region [11, 12, 15, 16, 18] [] [
 ⟨some 73, none, .mv true (.s 15)⟩,
 ⟨some 74, none, .mv false (.s 18)⟩,
 ⟨some 75, none, .buildSl 1 1 [.sl .plain none 0 []] [(0, 1, (.s 74))]⟩,
 ⟨some 76, none, .append 1 24 false none none 73 (.s 75)⟩,
 ⟨some 15, none, .mv true (.s 76)⟩]) (
 .seq (
 .region [10, 11, 12] [.norm [5, 11, 12, 13, 16, 17]] [
 ⟨some 77, none, .mv true (.s 15)⟩,
 ⟨some 78, none, .load (some 16) (some 16) false (.s 16)⟩,
 ⟨some 79, none, .mv true (.s 18)⟩,
 ⟨some 80, none, .call 28 [(.s 79)] []⟩,
 ⟨some 10, none, .mv true (.s 77)⟩,
 ⟨none, none, .store (some 16) 11 false (.s 11) (.s 78)⟩,
 ⟨none, none, .store (some 16) 12 false (.s 12) (.s 80)⟩]) (
 .ret))))) (
 .ghost (.keep [5, 11, 12, 13, 14]) .skip))) (
 f_custodyref08_PrefixInputs_r2))
def f_custodyref08_PrefixInputs_r0 : ACode :=
 .seq (
 .region [5, 11, 12, 13] [.norm [5, 11, 12, 13]] [
 ⟨some 37, none, .mv false (.s 4)⟩,
 ⟨some 38, none, .mv false (.s 4)⟩,
 ⟨some 39, none, .len false (.s 38)⟩,
 ⟨some 40, none, .bin .sub (.s 39) (.c (i64 1))⟩,
 ⟨some 41, none, .idxSl 16 (.s 37) (.s 40)⟩,
 ⟨some 42, none, .load (some 16) none false (.s 41)⟩,
 ⟨some 13, none, .alloc 13 (bys (zeros 16))⟩,
 ⟨none, none, .store (some 16) 13 false (.s 13) (.s 42)⟩]) (
 .seq (
 .seq (
 .region [5, 11, 12, 13, 45] [] [
 ⟨some 43, none, .mv false (.s 1)⟩,
 ⟨some 44, none, .mv false (.s 2)⟩,
 ⟨some 45, none, .bin .eql (.s 43) (.s 44)⟩]) (
 .cond (.s 45) (
 .seq (
 .region [10, 11, 12] [.norm [5, 11, 12, 13]] [
 ⟨some 46, none, .load (some 16) (some 13) false (.s 13)⟩,
 ⟨some 47, none, .load (some 16) (some 13) false (.s 13)⟩,
 ⟨some 10, none, .mv true (.c (.sl (.own 1) none 0 []))⟩,
 ⟨none, none, .store (some 16) 11 false (.s 11) (.s 46)⟩,
 ⟨none, none, .store (some 16) 12 false (.s 12) (.s 47)⟩]) (
 .ret)) (
 .ghost (.keep [5, 11, 12, 13]) .skip))) (
 f_custodyref08_PrefixInputs_r1))
def f_custodyref08_PrefixInputs : AFun :=
 { n := 5, wr := [], res := [.o 10, .cell 11 (some 16) 11, .cell 12 (some 16) 12], body :=
 .seq (
 .region [5, 11, 12] [.norm [5, 11, 12]] [
 ⟨some 5, none, .box 5 (some 16) false (.s 0)⟩,
 ⟨some 10, none, .mv true (.c (.sl (.own 1) none 0 []))⟩,
 ⟨some 11, none, .alloc 11 (bys (zeros 16))⟩,
 ⟨some 12, none, .alloc 12 (bys (zeros 16))⟩]) (
 .seq (
 .seq (
 .region [5, 11, 12, 34] [] [
 ⟨some 24, none, .mv false (.s 1)⟩,
 ⟨some 25, none, .mv false (.s 2)⟩,
 ⟨some 26, none, .bin .eql (.s 24) (.s 25)⟩,
 ⟨some 27, none, .mv false (.s 26)⟩,
 ⟨some 28, (some (27, true)), .mv false (.s 3)⟩,
 ⟨some 29, none, .pick (.s 27) (.s 28) (.c (bo false))⟩,
 ⟨some 30, none, .mv false (.s 29)⟩,
 ⟨some 31, (some (30, false)), .mv false (.s 4)⟩,
 ⟨some 32, (some (30, false)), .len false (.s 31)⟩,
 ⟨some 33, (some (30, false)), .bin .eql (.s 32) (.c (i64 0))⟩,
 ⟨some 34, none, .pick (.s 30) (.c (bo true)) (.s 33)⟩]) (
 .cond (.s 34) (
 .seq (
 .region [10, 11, 12] [.norm [5, 11, 12]] [
 ⟨some 35, none, .load (some 16) (some 5) false (.s 5)⟩,
 ⟨some 36, none, .load (some 16) (some 5) false (.s 5)⟩,
 ⟨some 10, none, .mv true (.c (.sl (.own 1) none 0 []))⟩,
 ⟨none, none, .store (some 16) 11 false (.s 11) (.s 35)⟩,
 ⟨none, none, .store (some 16) 12 false (.s 12) (.s 36)⟩]) (
 .ret)) (
 .ghost (.keep [5, 11, 12]) .skip))) (
 f_custodyref08_PrefixInputs_r0)) }

def f_custodyref08_Split_r0 : ACode :=
 .block 1 (
 .region [3] [] [
 ⟨some 9, none, .mv false (.s 3)⟩,
 ⟨some 10, none, .bin .mul (.c (i64 2)) (.s 9)⟩,
 ⟨some 3, none, .mv false (.s 10)⟩])
def f_custodyref08_Split_l0 : ACode :=
 .seq (
 .seq (
 .region [3, 8] [] [
 ⟨some 4, none, .mv false (.s 3)⟩,
 ⟨some 5, none, .mv false (.s 0)⟩,
 ⟨some 6, none, .mv false (.s 3)⟩,
 ⟨some 7, none, .bin .sub (.s 5) (.s 6)⟩,
 ⟨some 8, none, .bin .lss (.s 4) (.s 7)⟩]) (
 .cond (.s 8) (
 .ghost (.keep [3]) .skip) (
 .ghost (.keep [3]) (.exit 0)))) (
 f_custodyref08_Split_r0)
def f_custodyref08_Split_r1 : ACode :=
 .seq (
 .region [2] [] [
 ⟨some 11, none, .mv false (.s 3)⟩,
 ⟨some 2, none, .mv false (.s 11)⟩]) (
 .ret)
def f_custodyref08_Split : AFun :=
 { n := 1, wr := [], res := [.t 2], body :=
 .seq (
 .region [] [] [
 ⟨some 2, none, .mv false (.c (i64 0))⟩]) (
 .seq (
 .region [3] [] [
 ⟨some 3, none, .mv false (.c (i64 1))⟩]) (
 .seq (
 .block 0 (
 .loop f_custodyref08_Split_l0)) (
 f_custodyref08_Split_r1))) }

end Go.Abs
end

section
namespace Go.Abs
set_option maxRecDepth 100000
def f_custodylaw08_MerkleHistoryIsFixed_r1 : ACode :=
 .seq (
 .region [1, 3, 7] [.norm [1]] [
 ⟨some 84, none, .fieldAddr 32 (.s 1)⟩,
 ⟨some 85, none, .load none (some 1) false (.s 84)⟩,
 ⟨some 86, none, .fieldAddr 34 (.s 1)⟩,
 ⟨some 87, none, .load none (some 1) false (.s 86)⟩,
 ⟨some 88, none, .fieldAddr 35 (.s 1)⟩,
 ⟨some 89, none, .load (some 16) (some 1) false (.s 88)⟩,
 ⟨some 90, none, .fieldAddr 67 (.s 1)⟩,
 ⟨some 91, none, .load none (some 1) false (.s 90)⟩,
 ⟨some 92, none, .call 203 [(.s 85), (.s 87), (.s 89), (.s 91)] []⟩,
 ⟨some 83, none, .mv true (.s 92)⟩,
 ⟨some 93, none, .extractO 83⟩,
 ⟨some 94, none, .extract 1 (.s 83)⟩,
 ⟨some 7, none, .mv true (.s 93)⟩,
 ⟨some 8, none, .mv false (.s 94)⟩]) (
 .seq (
 .region [1, 3, 7, 9] [.norm [1]] [
 ⟨some 96, none, .fieldAddr 33 (.s 1)⟩,
 ⟨some 97, none, .load none (some 1) false (.s 96)⟩,
 ⟨some 98, none, .fieldAddr 34 (.s 1)⟩,
 ⟨some 99, none, .load none (some 1) false (.s 98)⟩,
 ⟨some 100, none, .fieldAddr 51 (.s 1)⟩,
 ⟨some 101, none, .load (some 16) (some 1) false (.s 100)⟩,
 ⟨some 102, none, .fieldAddr 68 (.s 1)⟩,
 ⟨some 103, none, .load none (some 1) false (.s 102)⟩,
 ⟨some 104, none, .call 203 [(.s 97), (.s 99), (.s 101), (.s 103)] []⟩,
 ⟨some 95, none, .mv true (.s 104)⟩,
 ⟨some 105, none, .extractO 95⟩,
 ⟨some 106, none, .extract 1 (.s 95)⟩,
 ⟨some 9, none, .mv true (.s 105)⟩,
 ⟨some 10, none, .mv false (.s 106)⟩]) (
 .seq (
 .region [3, 7, 9, 11] [.norm [1, 12, 13]] [
 ⟨some 108, none, .fieldAddr 0 (.s 1)⟩,
 ⟨some 109, none, .load (some 16) (some 1) false (.s 108)⟩,
 ⟨some 110, none, .fieldAddr 32 (.s 1)⟩,
 ⟨some 111, none, .load none (some 1) false (.s 110)⟩,
 ⟨some 112, none, .fieldAddr 33 (.s 1)⟩,
 ⟨some 113, none, .load none (some 1) false (.s 112)⟩,
 ⟨some 114, none, .fieldAddr 69 (.s 1)⟩,
 ⟨some 115, none, .load none (some 1) false (.s 114)⟩,
 ⟨some 116, none, .call 208 [(.s 109), (.s 111), (.s 113), (.c (bo true)), (.s 115)] []⟩,
 ⟨some 107, none, .mv true (.s 116)⟩,
 ⟨some 117, none, .extractO 107⟩,
 ⟨some 118, none, .extract 1 (.s 107)⟩,
 ⟨some 119, none, .extract 2 (.s 107)⟩,
 ⟨some 12, none, .alloc 12 (bys (zeros 16))⟩,
 ⟨some 13, none, .alloc 13 (bys (zeros 16))⟩,
 ⟨some 11, none, .mv true (.s 117)⟩,
 ⟨none, none, .store (some 16) 12 false (.s 12) (.s 118)⟩,
 ⟨none, none, .store (some 16) 13 false (.s 13) (.s 119)⟩]) (
 .seq (
 .region [3, 7, 11] [] [
 ⟨some 120, none, .mv true (.s 7)⟩,
 ⟨some 121, none, .mv true (.s 9)⟩,
 ⟨some 122, none, .append 1 24 false none none 120 (.s 121)⟩,
 ⟨some 7, none, .mv true (.s 122)⟩]) (
 .seq (
 .region [3, 7] [] [
 ⟨some 123, none, .mv true (.s 7)⟩,
 ⟨some 124, none, .mv true (.s 11)⟩,
 ⟨some 125, none, .append 1 24 false none none 123 (.s 124)⟩,
 ⟨some 7, none, .mv true (.s 125)⟩]) (
 .seq (
 .region [2] [] [
 ⟨some 126, none, .mv false (.s 3)⟩,
 ⟨some 127, none, .mv false (.s 126)⟩,
 ⟨some 128, (some (127, true)), .mv false (.s 7)⟩,
 ⟨some 129, (some (127, true)), .call 221 [(.s 128)] []⟩,
 ⟨some 130, none, .pick (.s 127) (.s 129) (.c (bo false))⟩,
 ⟨some 2, none, .mv false (.s 130)⟩]) (
 .ret))))))
def f_custodylaw08_MerkleHistoryIsFixed_r0 : ACode :=
 .seq (
 .region [1, 3, 4] [.norm [1]] [
 ⟨some 32, none, .fieldAddr 0 (.s 1)⟩,
 ⟨some 33, none, .load (some 16) (some 1) false (.s 32)⟩,
 ⟨some 34, none, .fieldAddr 32 (.s 1)⟩,
 ⟨some 35, none, .load none (some 1) false (.s 34)⟩,
 ⟨some 36, none, .fieldAddr 34 (.s 1)⟩,
 ⟨some 37, none, .load none (some 1) false (.s 36)⟩,
 ⟨some 38, none, .fieldAddr 35 (.s 1)⟩,
 ⟨some 39, none, .load (some 16) (some 1) false (.s 38)⟩,
 ⟨some 40, none, .fieldAddr 67 (.s 1)⟩,
 ⟨some 41, none, .load none (some 1) false (.s 40)⟩,
 ⟨some 42, none, .call 173 [(.s 33), (.s 35), (.s 37), (.s 39), (.s 41)] []⟩,
 ⟨some 4, none, .mv false (.s 42)⟩]) (
 .seq (
 .region [1, 3, 4, 5] [.norm [1]] [
 ⟨some 43, none, .fieldAddr 16 (.s 1)⟩,
 ⟨some 44, none, .load (some 16) (some 1) false (.s 43)⟩,
 ⟨some 45, none, .fieldAddr 33 (.s 1)⟩,
 ⟨some 46, none, .load none (some 1) false (.s 45)⟩,
 ⟨some 47, none, .fieldAddr 34 (.s 1)⟩,
 ⟨some 48, none, .load none (some 1) false (.s 47)⟩,
 ⟨some 49, none, .fieldAddr 51 (.s 1)⟩,
 ⟨some 50, none, .load (some 16) (some 1) false (.s 49)⟩,
 ⟨some 51, none, .fieldAddr 68 (.s 1)⟩,
 ⟨some 52, none, .load none (some 1) false (.s 51)⟩,
 ⟨some 53, none, .call 173 [(.s 44), (.s 46), (.s 48), (.s 50), (.s 52)] []⟩,
 ⟨some 5, none, .mv false (.s 53)⟩]) (
 .seq (
 .region [1, 3, 4, 5, 6] [.norm [1]] [
 ⟨some 54, none, .fieldAddr 0 (.s 1)⟩,
 ⟨some 55, none, .load (some 16) (some 1) false (.s 54)⟩,
 ⟨some 56, none, .fieldAddr 16 (.s 1)⟩,
 ⟨some 57, none, .load (some 16) (some 1) false (.s 56)⟩,
 ⟨some 58, none, .fieldAddr 32 (.s 1)⟩,
 ⟨some 59, none, .load none (some 1) false (.s 58)⟩,
 ⟨some 60, none, .fieldAddr 33 (.s 1)⟩,
 ⟨some 61, none, .load none (some 1) false (.s 60)⟩,
 ⟨some 62, none, .fieldAddr 69 (.s 1)⟩,
 ⟨some 63, none, .load none (some 1) false (.s 62)⟩,
 ⟨some 64, none, .call 176 [(.s 55), (.s 57), (.s 59), (.s 61), (.s 63)] []⟩,
 ⟨some 6, none, .mv false (.s 64)⟩]) (
 .seq (
 .seq (
 .region [1, 3, 81] [.norm [1]] [
 ⟨some 65, none, .mv false (.s 4)⟩,
 ⟨some 66, none, .un .not (.s 65)⟩,
 ⟨some 67, none, .mv false (.s 66)⟩,
 ⟨some 68, (some (67, false)), .mv false (.s 5)⟩,
 ⟨some 69, (some (67, false)), .un .not (.s 68)⟩,
 ⟨some 70, none, .pick (.s 67) (.c (bo true)) (.s 69)⟩,
 ⟨some 71, none, .mv false (.s 70)⟩,
 ⟨some 72, (some (71, false)), .mv false (.s 6)⟩,
 ⟨some 73, (some (71, false)), .un .not (.s 72)⟩,
 ⟨some 74, none, .pick (.s 71) (.c (bo true)) (.s 73)⟩,
 ⟨some 75, none, .mv false (.s 74)⟩,
 ⟨some 76, (some (75, false)), .fieldAddr 35 (.s 1)⟩,
 ⟨some 77, (some (75, false)), .load (some 16) (some 1) false (.s 76)⟩,
 ⟨some 78, (some (75, false)), .fieldAddr 51 (.s 1)⟩,
 ⟨some 79, (some (75, false)), .load (some 16) (some 1) false (.s 78)⟩,
 ⟨some 80, (some (75, false)), .eqF (ks8 16) false (.s 77) (.s 79)⟩,
 ⟨some 81, none, .pick (.s 75) (.c (bo true)) (.s 80)⟩]) (
 .cond (.s 81) (
 .seq (
 .region [2] [] [
 ⟨some 82, none, .mv false (.s 3)⟩,
 ⟨some 2, none, .mv false (.s 82)⟩]) (
 .ret)) (
 .ghost (.keep [1, 3]) .skip))) (
 f_custodylaw08_MerkleHistoryIsFixed_r1))))
def f_custodylaw08_MerkleHistoryIsFixed : AFun :=
 { n := 1, wr := [], res := [.t 2], body :=
 .seq (
 .region [1] [.norm [1]] [
 ⟨some 1, none, .box 1 (some 70) false (.s 0)⟩,
 ⟨some 2, none, .mv false (.c (bo false))⟩]) (
 .seq (
 .region [1, 3] [] [
 ⟨some 14, none, .call 215 [] []⟩,
 ⟨some 3, none, .mv false (.s 14)⟩]) (
 .seq (
 .seq (
 .region [1, 3, 30] [.norm [1]] [
 ⟨some 15, none, .fieldAddr 67 (.s 1)⟩,
 ⟨some 16, none, .load none (some 1) false (.s 15)⟩,
 ⟨some 17, none, .len false (.s 16)⟩,
 ⟨some 18, none, .bin .gtr (.s 17) (.c (i64 40))⟩,
 ⟨some 19, none, .mv false (.s 18)⟩,
 ⟨some 20, (some (19, false)), .fieldAddr 68 (.s 1)⟩,
 ⟨some 21, (some (19, false)), .load none (some 1) false (.s 20)⟩,
 ⟨some 22, (some (19, false)), .len false (.s 21)⟩,
 ⟨some 23, (some (19, false)), .bin .gtr (.s 22) (.c (i64 40))⟩,
 ⟨some 24, none, .pick (.s 19) (.c (bo true)) (.s 23)⟩,
 ⟨some 25, none, .mv false (.s 24)⟩,
 ⟨some 26, (some (25, false)), .fieldAddr 69 (.s 1)⟩,
 ⟨some 27, (some (25, false)), .load none (some 1) false (.s 26)⟩,
 ⟨some 28, (some (25, false)), .len false (.s 27)⟩,
 ⟨some 29, (some (25, false)), .bin .gtr (.s 28) (.c (i64 40))⟩,
 ⟨some 30, none, .pick (.s 25) (.c (bo true)) (.s 29)⟩]) (
 .cond (.s 30) (
 .seq (
 .region [2] [] [
 ⟨some 31, none, .mv false (.s 3)⟩,
 ⟨some 2, none, .mv false (.s 31)⟩]) (
 .ret)) (
 .ghost (.keep [1, 3]) .skip))) (
 f_custodylaw08_MerkleHistoryIsFixed_r0))) }

def f_custodylaw08_sanity_r0 : ACode :=
 .seq (
 .block 1 (
 .seq (
 .region [1, 2, 3, 4, 5, 6, 8, 11, 12, 13, 14, 15] [.norm [2, 12, 14]] [
 ⟨some 56, none, .load (some 2) (some 12) false (.s 12)⟩,
 ⟨some 57, none, .mv false (.s 1)⟩,
 ⟨some 58, none, .mv false (.s 13)⟩,
 ⟨some 59, none, .idxSl 16 (.s 57) (.s 58)⟩,
 ⟨some 60, none, .load (some 16) none false (.s 59)⟩,
 ⟨some 61, none, .call 182 [(.s 56), (.s 60)] []⟩,
 ⟨some 55, none, .mv false (.s 61)⟩,
 ⟨some 62, none, .extract 0 (.s 55)⟩,
 ⟨some 63, none, .extract 1 (.s 55)⟩,
 ⟨some 14, none, .alloc 14 [i64 0, .sl (.own 16) none 0 []]⟩,
 ⟨none, none, .store (some 2) 14 false (.s 14) (.s 62)⟩,
 ⟨some 15, none, .mv false (.s 63)⟩]) (
 .seq (
 .region [1, 2, 3, 4, 5, 6, 8, 11, 12, 13, 15] [.norm [2, 12, 14]] [
 ⟨some 64, none, .load (some 2) (some 14) false (.s 14)⟩,
 ⟨none, none, .store (some 2) 12 false (.s 12) (.s 64)⟩]) (
 .seq (
 .region [1, 2, 3, 4, 5, 6, 8, 11, 12, 13, 66] [] [
 ⟨some 65, none, .mv false (.s 15)⟩,
 ⟨some 66, none, .bin .neq (.s 65) (.c (i64 0))⟩]) (
 .cond (.s 66) (
 .seq (
 .region [0] [] [
 ⟨some 0, none, .mv false (.c (bo false))⟩]) (
 .ret)) (
 .ghost (.keep [1, 2, 3, 4, 5, 6, 8, 11, 12, 13]) .skip)))))) (
 .region [1, 2, 3, 4, 5, 6, 8, 11, 12, 13] [.drop [14]] [
 ⟨some 53, none, .mv false (.s 13)⟩,
 ⟨some 54, none, .bin .add (.s 53) (.c (i64 1))⟩,
 ⟨some 13, none, .mv false (.s 54)⟩])
def f_custodylaw08_sanity_l0 : ACode :=
 .seq (
 .seq (
 .region [1, 2, 3, 4, 5, 6, 8, 11, 12, 13, 52] [] [
 ⟨some 51, none, .mv false (.s 13)⟩,
 ⟨some 52, none, .bin .lss (.s 51) (.c (i64 3))⟩]) (
 .cond (.s 52) (
 .ghost (.keep [1, 2, 3, 4, 5, 6, 8, 11, 12, 13]) .skip) (
 .ghost (.keep [1, 2, 3, 4, 5, 6, 8, 11, 12]) (.exit 0)))) (
 f_custodylaw08_sanity_r0)
def f_custodylaw08_sanity_r1 : ACode :=
 .seq (
 .region [1, 2, 3, 4, 5, 6, 8, 11, 16, 17] [.norm [2, 12, 14, 16]] [
 ⟨some 68, none, .load (some 2) (some 12) false (.s 12)⟩,
 ⟨some 69, none, .call 185 [(.s 68)] []⟩,
 ⟨some 67, none, .mv false (.s 69)⟩,
 ⟨some 70, none, .extract 0 (.s 67)⟩,
 ⟨some 71, none, .extract 1 (.s 67)⟩,
 ⟨some 16, none, .alloc 16 (bys (zeros 16))⟩,
 ⟨none, none, .store (some 16) 16 false (.s 16) (.s 70)⟩,
 ⟨some 17, none, .mv false (.s 71)⟩]) (
 .seq (
 .region [1, 2, 3, 4, 5, 6, 8, 11, 16, 17, 19] [.norm [2, 12, 14, 16, 18]] [
 ⟨some 73, none, .build [i64 0, .sl .plain none 0 []] [(0, 1, (.c (i64 2)))]⟩,
 ⟨some 74, none, .call 185 [(.s 73)] []⟩,
 ⟨some 72, none, .mv false (.s 74)⟩,
 ⟨some 75, none, .extract 0 (.s 72)⟩,
 ⟨some 76, none, .extract 1 (.s 72)⟩,
 ⟨some 18, none, .alloc 18 (bys (zeros 16))⟩,
 ⟨none, none, .store (some 16) 18 false (.s 18) (.s 75)⟩,
 ⟨some 19, none, .mv false (.s 76)⟩]) (
 .seq (
 .region [1, 2, 3, 4, 5, 6, 8, 11, 16, 17, 19, 20] [.norm [2, 12, 14, 16, 18]] [
 ⟨some 77, none, .load (some 16) (some 2) false (.s 2)⟩,
 ⟨some 78, none, .build (bys (zeros 16)) [(0, 1, (.c (u8 3)))]⟩,
 ⟨some 79, none, .mv false (.s 3)⟩,
 ⟨some 80, none, .call 173 [(.s 77), (.c (i64 3)), (.c (i64 2)), (.s 78), (.s 79)] []⟩,
 ⟨some 20, none, .mv false (.s 80)⟩]) (
 .seq (
 .region [2, 3, 4, 5, 6, 8, 11, 16, 17, 19, 20, 21] [.norm [2, 12, 14, 16, 18]] [
 ⟨some 81, none, .mv true (.s 1)⟩,
 ⟨some 82, none, .slSl 16 (.s 81) none (some (.c (i64 1))) none⟩,
 ⟨some 83, none, .call 168 [(.s 82)] []⟩,
 ⟨some 84, none, .load (some 16) (some 2) false (.s 2)⟩,
 ⟨some 85, none, .mv false (.s 5)⟩,
 ⟨some 86, none, .call 176 [(.s 83), (.s 84), (.c (i64 1)), (.c (i64 3)), (.s 85)] []⟩,
 ⟨some 21, none, .mv false (.s 86)⟩]) (
 .seq (
 .region [0] [.norm [2, 12, 14, 16, 18]] [
 ⟨some 87, none, .mv false (.s 4)⟩,
 ⟨some 88, none, .bin .eql (.s 87) (.c (i64 0))⟩,
 ⟨some 89, none, .mv false (.s 88)⟩,
 ⟨some 90, (some (89, true)), .mv false (.s 6)⟩,
 ⟨some 91, (some (89, true)), .bin .eql (.s 90) (.c (i64 0))⟩,
 ⟨some 92, none, .pick (.s 89) (.s 91) (.c (bo false))⟩,
 ⟨some 93, none, .mv false (.s 92)⟩,
 ⟨some 94, (some (93, true)), .mv false (.s 8)⟩,
 ⟨some 95, (some (93, true)), .bin .eql (.s 94) (.c (i64 11))⟩,
 ⟨some 96, none, .pick (.s 93) (.s 95) (.c (bo false))⟩,
 ⟨some 97, none, .mv false (.s 96)⟩,
 ⟨some 98, (some (97, true)), .mv false (.s 11)⟩,
 ⟨some 99, (some (97, true)), .un .not (.s 98)⟩,
 ⟨some 100, none, .pick (.s 97) (.s 99) (.c (bo false))⟩,
 ⟨some 101, none, .mv false (.s 100)⟩,
 ⟨some 102, (some (101, true)), .mv false (.s 3)⟩,
 ⟨some 103, (some (101, true)), .len false (.s 102)⟩,
 ⟨some 104, (some (101, true)), .bin .eql (.s 103) (.c (i64 1))⟩,
 ⟨some 105, none, .pick (.s 101) (.s 104) (.c (bo false))⟩,
 ⟨some 106, none, .mv false (.s 105)⟩,
 ⟨some 107, (some (106, true)), .mv false (.s 5)⟩,
 ⟨some 108, (some (106, true)), .len false (.s 107)⟩,
 ⟨some 109, (some (106, true)), .bin .eql (.s 108) (.c (i64 2))⟩,
 ⟨some 110, none, .pick (.s 106) (.s 109) (.c (bo false))⟩,
 ⟨some 111, none, .mv false (.s 110)⟩,
 ⟨some 112, (some (111, true)), .mv false (.s 20)⟩,
 ⟨some 113, none, .pick (.s 111) (.s 112) (.c (bo false))⟩,
 ⟨some 114, none, .mv false (.s 113)⟩,
 ⟨some 115, (some (114, true)), .mv false (.s 21)⟩,
 ⟨some 116, none, .pick (.s 114) (.s 115) (.c (bo false))⟩,
 ⟨some 117, none, .mv false (.s 116)⟩,
 ⟨some 118, (some (117, true)), .mv false (.s 17)⟩,
 ⟨some 119, (some (117, true)), .bin .eql (.s 118) (.c (i64 0))⟩,
 ⟨some 120, none, .pick (.s 117) (.s 119) (.c (bo false))⟩,
 ⟨some 121, none, .mv false (.s 120)⟩,
 ⟨some 122, (some (121, true)), .load (some 16) (some 16) false (.s 16)⟩,
 ⟨some 123, (some (121, true)), .load (some 16) (some 2) false (.s 2)⟩,
 ⟨some 124, (some (121, true)), .eqF (ks8 16) false (.s 122) (.s 123)⟩,
 ⟨some 125, none, .pick (.s 121) (.s 124) (.c (bo false))⟩,
 ⟨some 126, none, .mv false (.s 125)⟩,
 ⟨some 127, (some (126, true)), .mv false (.s 19)⟩,
 ⟨some 128, (some (126, true)), .bin .eql (.s 127) (.c (i64 1))⟩,
 ⟨some 129, none, .pick (.s 126) (.s 128) (.c (bo false))⟩,
 ⟨some 130, none, .mv false (.s 129)⟩,
 ⟨some 131, (some (130, true)), .load (some 16) (some 2) false (.s 2)⟩,
 ⟨some 132, (some (130, true)), .build (bys (zeros 16)) []⟩,
 ⟨some 133, (some (130, true)), .eqF (ks8 16) true (.s 131) (.s 132)⟩,
 ⟨some 134, none, .pick (.s 130) (.s 133) (.c (bo false))⟩,
 ⟨some 0, none, .mv false (.s 134)⟩]) (
 .ret)))))
def f_custodylaw08_sanity : AFun :=
 { n := 0, wr := [], res := [.t 0], body :=
 .seq (
 .region [] [] [
 ⟨some 0, none, .mv false (.c (bo false))⟩]) (
 .seq (
 .region [1] [] [
 ⟨some 22, none, .build (bys (zeros 16)) [(0, 1, (.c (u8 1)))]⟩,
 ⟨some 23, none, .build (bys (zeros 16)) [(0, 1, (.c (u8 2)))]⟩,
 ⟨some 24, none, .build (bys (zeros 16)) [(0, 1, (.c (u8 3)))]⟩,
 ⟨some 25, none, .buildSl 16 3 (bys (zeros 48)) [(0, 16, (.s 22)), (16, 16, (.s 23)), (32, 16, (.s 24))]⟩,
 ⟨some 1, none, .mv true (.s 25)⟩]) (
 .seq (
 .region [1, 2] [.norm [2]] [
 ⟨some 26, none, .mv false (.s 1)⟩,
 ⟨some 27, none, .call 168 [(.s 26)] []⟩,
 ⟨some 2, none, .alloc 2 (bys (zeros 16))⟩,
 ⟨none, none, .store (some 16) 2 false (.s 2) (.s 27)⟩]) (
 .seq (
 .region [1, 2, 3, 4] [] [
 ⟨some 29, none, .mv false (.s 1)⟩,
 ⟨some 30, none, .call 163 [(.s 29), (.c (i64 2))] []⟩,
 ⟨some 28, none, .mv false (.s 30)⟩,
 ⟨some 31, none, .extract 0 (.s 28)⟩,
 ⟨some 32, none, .extract 1 (.s 28)⟩,
 ⟨some 3, none, .mv true (.s 31)⟩,
 ⟨some 4, none, .mv false (.s 32)⟩]) (
 .seq (
 .region [1, 2, 3, 4, 5, 6] [] [
 ⟨some 34, none, .mv false (.s 1)⟩,
 ⟨some 35, none, .call 171 [(.s 34), (.c (i64 1))] []⟩,
 ⟨some 33, none, .mv false (.s 35)⟩,
 ⟨some 36, none, .extract 0 (.s 33)⟩,
 ⟨some 37, none, .extract 1 (.s 33)⟩,
 ⟨some 5, none, .mv true (.s 36)⟩,
 ⟨some 6, none, .mv false (.s 37)⟩]) (
 .seq (
 .region [1, 2, 3, 4, 5, 6, 8] [] [
 ⟨some 39, none, .mv false (.s 1)⟩,
 ⟨some 40, none, .call 163 [(.s 39), (.c (i64 3))] []⟩,
 ⟨some 38, none, .mv false (.s 40)⟩,
 ⟨some 41, none, .extract 0 (.s 38)⟩,
 ⟨some 42, none, .extract 1 (.s 38)⟩,
 ⟨some 7, none, .mv true (.s 41)⟩,
 ⟨some 8, none, .mv false (.s 42)⟩]) (
 .seq (
 .region [1, 2, 3, 4, 5, 6, 8, 11] [] [
 ⟨some 44, none, .build (bys (zeros 16)) [(0, 1, (.c (u8 1)))]⟩,
 ⟨some 45, none, .build (bys (zeros 16)) [(0, 1, (.c (u8 1)))]⟩,
 ⟨some 46, none, .call 178 [(.c (i64 1)), (.c (i64 0)), (.s 44), (.s 45), (.c (.lit (.slice none 0 0))), (.c (.lit (.slice none 0 0)))] []⟩,
 ⟨some 43, none, .mv false (.s 46)⟩,
 ⟨some 47, none, .extract 0 (.s 43)⟩,
 ⟨some 48, none, .extract 1 (.s 43)⟩,
 ⟨some 49, none, .extract 2 (.s 43)⟩,
 ⟨some 9, none, .mv true (.s 47)⟩,
 ⟨some 10, none, .mv true (.s 48)⟩,
 ⟨some 11, none, .mv false (.s 49)⟩]) (
 .seq (
 .region [1, 2, 3, 4, 5, 6, 8, 11, 12] [.norm [2, 12]] [
 ⟨some 50, none, .build [i64 0, .sl .plain none 0 []] []⟩,
 ⟨some 12, none, .alloc 12 [i64 0, .sl (.own 16) none 0 []]⟩,
 ⟨none, none, .store (some 2) 12 false (.s 12) (.s 50)⟩]) (
 .seq (
 .seq (
 .region [1, 2, 3, 4, 5, 6, 8, 11, 12, 13] [] [
 ⟨some 13, none, .mv false (.c (i64 0))⟩]) (
 .block 0 (
 .loop f_custodylaw08_sanity_l0))) (
 f_custodylaw08_sanity_r1))))))))) }

def f_custodylaw08_short_r0 : ACode :=
 .seq (
 .block 1 (
 .region [2, 3, 4, 5] [.norm [2, 3, 4]] [
 ⟨some 13, none, .mv false (.s 5)⟩,
 ⟨some 14, none, .mv false (.s 5)⟩,
 ⟨some 15, none, .idxArr 32 1 (.s 3) (.s 14)⟩,
 ⟨some 16, none, .load none (some 3) false (.s 15)⟩,
 ⟨some 17, none, .idxArr 16 1 (.s 4) (.s 13)⟩,
 ⟨none, none, .store none 4 false (.s 17) (.s 16)⟩])) (
 .region [2, 3, 4, 5] [] [
 ⟨some 11, none, .mv false (.s 5)⟩,
 ⟨some 12, none, .bin .add (.s 11) (.c (i64 1))⟩,
 ⟨some 5, none, .mv false (.s 12)⟩])
def f_custodylaw08_short_l0 : ACode :=
 .seq (
 .seq (
 .region [2, 3, 4, 5, 10] [] [
 ⟨some 9, none, .mv false (.s 5)⟩,
 ⟨some 10, none, .bin .lss (.s 9) (.c (i64 16))⟩]) (
 .cond (.s 10) (
 .ghost (.keep [2, 3, 4, 5]) .skip) (
 .ghost (.keep [2, 4]) (.exit 0)))) (
 f_custodylaw08_short_r0)
def f_custodylaw08_short_r1 : ACode :=
 .seq (
 .region [2] [.norm [2, 3, 4]] [
 ⟨some 18, none, .load (some 16) (some 4) false (.s 4)⟩,
 ⟨none, none, .store (some 16) 2 false (.s 2) (.s 18)⟩]) (
 .ret)
def f_custodylaw08_short : AFun :=
 { n := 1, wr := [], res := [.cell 2 (some 16) 2], body :=
 .seq (
 .region [2] [.norm [2]] [
 ⟨some 2, none, .alloc 2 (bys (zeros 16))⟩]) (
 .seq (
 .region [2, 3] [.norm [2, 3]] [
 ⟨some 6, none, .mv false (.s 0)⟩,
 ⟨some 7, none, .call 3 [(.s 6)] []⟩,
 ⟨some 3, none, .alloc 3 (bys (zeros 32))⟩,
 ⟨none, none, .store (some 32) 3 false (.s 3) (.s 7)⟩]) (
 .seq (
 .region [2, 3, 4] [.norm [2, 3, 4]] [
 ⟨some 8, none, .build (bys (zeros 16)) []⟩,
 ⟨some 4, none, .alloc 4 (bys (zeros 16))⟩,
 ⟨none, none, .store (some 16) 4 false (.s 4) (.s 8)⟩]) (
 .seq (
 .seq (
 .region [2, 3, 4, 5] [] [
 ⟨some 5, none, .mv false (.c (i64 0))⟩]) (
 .block 0 (
 .loop f_custodylaw08_short_l0))) (
 f_custodylaw08_short_r1)))) }

def f_custodylaw08_collides_r1 : ACode :=
 .seq (
 .block 3 (
 .seq (
 .region [3, 4, 39] [] [
 ⟨some 16, none, .mv false (.s 0)⟩,
 ⟨some 17, none, .mv false (.s 3)⟩,
 ⟨some 18, none, .idxSl 1 (.s 16) (.s 17)⟩,
 ⟨some 19, none, .load none none false (.s 18)⟩,
 ⟨some 20, none, .toStr none (.s 19)⟩,
 ⟨some 21, none, .mv false (.s 0)⟩,
 ⟨some 22, none, .mv false (.s 4)⟩,
 ⟨some 23, none, .idxSl 1 (.s 21) (.s 22)⟩,
 ⟨some 24, none, .load none none false (.s 23)⟩,
 ⟨some 25, none, .toStr none (.s 24)⟩,
 ⟨some 26, none, .bin .neq (.s 20) (.s 25)⟩,
 ⟨some 27, none, .mv false (.s 26)⟩,
 ⟨some 28, (some (27, true)), .mv false (.s 0)⟩,
 ⟨some 29, (some (27, true)), .mv false (.s 3)⟩,
 ⟨some 30, (some (27, true)), .idxSl 1 (.s 28) (.s 29)⟩,
 ⟨some 31, (some (27, true)), .load none none false (.s 30)⟩,
 ⟨some 32, (some (27, true)), .call 219 [(.s 31)] []⟩,
 ⟨some 33, (some (27, true)), .mv false (.s 0)⟩,
 ⟨some 34, (some (27, true)), .mv false (.s 4)⟩,
 ⟨some 35, (some (27, true)), .idxSl 1 (.s 33) (.s 34)⟩,
 ⟨some 36, (some (27, true)), .load none none false (.s 35)⟩,
 ⟨some 37, (some (27, true)), .call 219 [(.s 36)] []⟩,
 ⟨some 38, (some (27, true)), .eqF (ks8 16) false (.s 32) (.s 37)⟩,
 ⟨some 39, none, .pick (.s 27) (.s 38) (.c (bo false))⟩]) (
 .cond (.s 39) (
 .seq (
 .region [2] [] [
 ⟨some 2, none, .mv false (.c (bo true))⟩]) (
 .ret)) (
 .ghost (.keep [3, 4]) .skip)))) (
 .region [3, 4] [] [
 ⟨some 14, none, .mv false (.s 4)⟩,
 ⟨some 15, none, .bin .add (.s 14) (.c (i64 1))⟩,
 ⟨some 4, none, .mv false (.s 15)⟩])
def f_custodylaw08_collides_l1 : ACode :=
 .seq (
 .seq (
 .region [3, 4, 13] [] [
 ⟨some 11, none, .mv false (.s 4)⟩,
 ⟨some 12, none, .mv false (.s 3)⟩,
 ⟨some 13, none, .bin .lss (.s 11) (.s 12)⟩]) (
 .cond (.s 13) (
 .ghost (.keep [3, 4]) .skip) (
 .ghost (.keep [3]) (.exit 2)))) (
 f_custodylaw08_collides_r1)
def f_custodylaw08_collides_r0 : ACode :=
 .seq (
 .block 1 (
 .seq (
 .region [3, 4] [] [
 ⟨some 4, none, .mv false (.c (i64 0))⟩]) (
 .block 2 (
 .loop f_custodylaw08_collides_l1)))) (
 .region [3] [] [
 ⟨some 9, none, .mv false (.s 3)⟩,
 ⟨some 10, none, .bin .add (.s 9) (.c (i64 1))⟩,
 ⟨some 3, none, .mv false (.s 10)⟩])
def f_custodylaw08_collides_l0 : ACode :=
 .seq (
 .seq (
 .region [3, 8] [] [
 ⟨some 5, none, .mv false (.s 3)⟩,
 ⟨some 6, none, .mv false (.s 0)⟩,
 ⟨some 7, none, .len false (.s 6)⟩,
 ⟨some 8, none, .bin .lss (.s 5) (.s 7)⟩]) (
 .cond (.s 8) (
 .ghost (.keep [3]) .skip) (
 .ghost (.keep []) (.exit 0)))) (
 f_custodylaw08_collides_r0)
def f_custodylaw08_collides_r2 : ACode :=
 .seq (
 .region [2] [] [
 ⟨some 2, none, .mv false (.c (bo false))⟩]) (
 .ret)
def f_custodylaw08_collides : AFun :=
 { n := 1, wr := [], res := [.t 2], body :=
 .seq (
 .region [] [] [
 ⟨some 2, none, .mv false (.c (bo false))⟩]) (
 .seq (
 .seq (
 .region [3] [] [
 ⟨some 3, none, .mv false (.c (i64 0))⟩]) (
 .block 0 (
 .loop f_custodylaw08_collides_l0))) (
 f_custodylaw08_collides_r2)) }

end Go.Abs
end
