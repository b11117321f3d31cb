/- Lemmas: an abstract interpreter, and what the functions compute. -/
import Derived.Test.YtigghpdomoedhaaDoorC
import Derived.Test.YtigghpdomoedhaaDoorD
set_option linter.unusedSimpArgs false
set_option linter.unusedVariables false
set_option linter.unusedSectionVars false
section
namespace Go.Abs
set_option maxRecDepth 100000
def z7W:z9a:=
 .seq (
 .region [10,11,12,13] [.norm [5,6,7,10,11,15,19]] [
 ⟨some 112,none,.load (some 2) (some 6) false (.s 6)⟩,
 ⟨some 113,none,.load (some 1) (some 7) false (.s 7)⟩,
 ⟨some 114,none,.mv false (.s 20)⟩,
 ⟨none,none,.store (some 2) 10 false (.s 10) (.s 112)⟩,
 ⟨none,none,.store (some 1) 11 false (.s 11) (.s 113)⟩,
 ⟨some 12,none,.mv false (.s 114)⟩,
 ⟨some 13,none,.mv false (.c (i64 0))⟩]) (
 .ret)
def z6M:z9a:=
 .seq (
 .region [6,7,10,11,14,16,20] [.norm [5,6,7,10,11,15,19]] [
 ⟨some 97,none,.load (some 2) (some 6) false (.s 6)⟩,
 ⟨some 98,none,.load (some 9) (some 19) false (.s 19)⟩,
 ⟨some 99,none,.call 228 [(.s 97),(.s 98)] []⟩,
 ⟨some 96,none,.mv false (.s 99)⟩,
 ⟨some 100,none,.extract 0 (.s 96)⟩,
 ⟨some 101,none,.extract 1 (.s 96)⟩,
 ⟨some 102,none,.extract 2 (.s 96)⟩,
 ⟨none,none,.store (some 2) 6 false (.s 6) (.s 100)⟩,
 ⟨some 20,none,.mv false (.s 101)⟩,
 ⟨some 16,none,.mv false (.s 102)⟩]) (
 .seq (
 .seq (
 .region [6,7,10,11,14,16,20,104] [] [
 ⟨some 103,none,.mv false (.s 16)⟩,
 ⟨some 104,none,.bin .neq (.s 103) (.c (i64 0))⟩]) (
 .cond (.s 104) (
 .seq (
 .region [10,11,12,13] [.norm [5,6,7,10,11,15,19]] [
 ⟨some 105,none,.mv false (.s 14)⟩,
 ⟨some 106,none,.mv false (.s 16)⟩,
 ⟨some 107,none,.callv 225 (.s 105) [(.s 106)] []⟩,
 ⟨some 108,none,.extract 0 (.s 107)⟩,
 ⟨some 109,none,.extract 1 (.s 107)⟩,
 ⟨some 110,none,.extract 2 (.s 107)⟩,
 ⟨some 111,none,.extract 3 (.s 107)⟩,
 ⟨none,none,.store (some 2) 10 false (.s 10) (.s 108)⟩,
 ⟨none,none,.store (some 1) 11 false (.s 11) (.s 109)⟩,
 ⟨some 12,none,.mv false (.s 110)⟩,
 ⟨some 13,none,.mv false (.s 111)⟩]) (
 .ret)) (
 .ghost (.keep [6,7,10,11,20]) .skip))) (
 z7W))
def z3B:z9a:=
 .seq (
 .region [6,7,10,11,14,15,19] [.norm [5,6,7,10,11,15,19]] [
 ⟨some 58,none,.fieldAddr 1 (.s 15)⟩,
 ⟨some 59,none,.load none (some 15) false (.s 58)⟩,
 ⟨some 60,none,.fieldAddr 3 (.s 15)⟩,
 ⟨some 61,none,.load none (some 15) false (.s 60)⟩,
 ⟨some 62,none,.mv false (.s 3)⟩,
 ⟨some 63,none,.mv false (.s 3)⟩,
 ⟨some 64,none,.mv false (.s 17)⟩,
 ⟨some 65,none,.bin .add (.s 63) (.s 64)⟩,
 ⟨some 66,none,.fieldAddr 6 (.s 15)⟩,
 ⟨some 67,none,.load none (some 15) false (.s 66)⟩,
 ⟨some 68,none,.bin .add (.s 67) (.c (i64 1))⟩,
 ⟨some 69,none,.mv false (.s 4)⟩,
 ⟨some 70,none,.build ([i64 0,i64 0]++[st []]++List.replicate 5 (i64 0)++[bo false]) [(1,1,(.s 59)),(3,1,(.s 61)),(4,1,(.s 62)),(5,1,(.s 65)),(6,1,(.s 68)),(7,1,(.s 69))]⟩,
 ⟨some 19,none,.alloc 19 ([i64 0,i64 0]++[st []]++List.replicate 5 (i64 0)++[bo false])⟩,
 ⟨none,none,.store (some 9) 19 false (.s 19) (.s 70)⟩]) (
 .seq (
 .region [6,7,10,11,14,15,19] [.norm [5,6,7,10,11,15,19]] [
 ⟨some 72,none,.load (some 1) (some 7) false (.s 7)⟩,
 ⟨some 73,none,.call 75 [(.s 72)] []⟩,
 ⟨some 71,none,.mv false (.s 73)⟩,
 ⟨some 74,none,.extract 0 (.s 71)⟩,
 ⟨some 75,none,.extract 1 (.s 71)⟩,
 ⟨some 76,none,.fieldAddr 2 (.s 19)⟩,
 ⟨none,none,.store none 19 false (.s 76) (.s 74)⟩,
 ⟨none,none,.store (some 1) 7 false (.s 7) (.s 75)⟩]) (
 .seq (
 .region [6,7,10,11,14,15,19] [.norm [5,6,7,10,11,15,19]] [
 ⟨some 77,none,.fieldAddr 3 (.s 15)⟩,
 ⟨some 78,none,.load none (some 15) false (.s 77)⟩,
 ⟨some 79,none,.bin .and (.s 78) (.c (i64 176))⟩,
 ⟨some 80,none,.fieldAddr 3 (.s 15)⟩,
 ⟨none,none,.store none 15 false (.s 80) (.s 79)⟩]) (
 .seq (
 .seq (
 .region [6,7,10,11,14,16,19] [.norm [5,6,7,10,11,15,19]] [
 ⟨some 82,none,.load (some 2) (some 6) false (.s 6)⟩,
 ⟨some 83,none,.load (some 9) (some 15) false (.s 15)⟩,
 ⟨some 84,none,.call 227 [(.s 82),(.s 83)] []⟩,
 ⟨some 81,none,.mv false (.s 84)⟩,
 ⟨some 85,none,.extract 0 (.s 81)⟩,
 ⟨some 86,none,.extract 1 (.s 81)⟩,
 ⟨none,none,.store (some 2) 6 false (.s 6) (.s 85)⟩,
 ⟨some 16,none,.mv false (.s 86)⟩]) (
 .seq (
 .region [6,7,10,11,14,16,19,88] [] [
 ⟨some 87,none,.mv false (.s 16)⟩,
 ⟨some 88,none,.bin .neq (.s 87) (.c (i64 0))⟩]) (
 .cond (.s 88) (
 .seq (
 .region [10,11,12,13] [.norm [5,6,7,10,11,15,19]] [
 ⟨some 89,none,.mv false (.s 14)⟩,
 ⟨some 90,none,.mv false (.s 16)⟩,
 ⟨some 91,none,.callv 225 (.s 89) [(.s 90)] []⟩,
 ⟨some 92,none,.extract 0 (.s 91)⟩,
 ⟨some 93,none,.extract 1 (.s 91)⟩,
 ⟨some 94,none,.extract 2 (.s 91)⟩,
 ⟨some 95,none,.extract 3 (.s 91)⟩,
 ⟨none,none,.store (some 2) 10 false (.s 10) (.s 92)⟩,
 ⟨none,none,.store (some 1) 11 false (.s 11) (.s 93)⟩,
 ⟨some 12,none,.mv false (.s 94)⟩,
 ⟨some 13,none,.mv false (.s 95)⟩]) (
 .ret)) (
 .ghost (.keep [6,7,10,11,14,19]) .skip)))) (
 z6M))))
def z2M:z9a:=
 .seq (
 .region [5,6,7,10,11,14,15,17] [.norm [5,6,7,10,11,15]] [
 ⟨some 38,none,.fieldAddr 5 (.s 15)⟩,
 ⟨some 39,none,.load none (some 15) false (.s 38)⟩,
 ⟨some 40,none,.fieldAddr 4 (.s 15)⟩,
 ⟨some 41,none,.load none (some 15) false (.s 40)⟩,
 ⟨some 42,none,.bin .sub (.s 39) (.s 41)⟩,
 ⟨some 43,none,.mv false (.s 3)⟩,
 ⟨some 44,none,.bin .sub (.c (i64 1099511627776)) (.s 43)⟩,
 ⟨some 45,none,.min2 (.s 42) (.s 44)⟩,
 ⟨some 17,none,.mv false (.s 45)⟩]) (
 .seq (
 .seq (
 .region [6,7,10,11,14,15,17,18] [.norm [5,6,7,10,11,15]] [
 ⟨some 46,none,.fieldAddr 1 (.s 5)⟩,
 ⟨some 47,none,.load none (some 5) false (.s 46)⟩,
 ⟨some 48,none,.fieldAddr 1 (.s 15)⟩,
 ⟨some 49,none,.load none (some 15) false (.s 48)⟩,
 ⟨some 50,none,.idxSl 3 (.s 47) (.s 49)⟩,
 ⟨some 51,none,.fieldAddr 2 (.s 50)⟩,
 ⟨some 52,none,.load none none false (.s 51)⟩,
 ⟨some 18,none,.mv false (.s 52)⟩]) (
 .seq (
 .region [6,7,10,11,14,15,17,18,54] [] [
 ⟨some 53,none,.mv false (.s 18)⟩,
 ⟨some 54,none,.bin .gtr (.s 53) (.c (i64 0))⟩]) (
 .cond (.s 54) (
 .region [6,7,10,11,14,15,17] [] [
 ⟨some 55,none,.mv false (.s 17)⟩,
 ⟨some 56,none,.mv false (.s 18)⟩,
 ⟨some 57,none,.min2 (.s 55) (.s 56)⟩,
 ⟨some 17,none,.mv false (.s 57)⟩]) (
 .ghost (.keep [6,7,10,11,14,15,17]) .skip)))) (
 z3B))
def z6n:z2p:=
 {n:=5,wr:=[],res:=[.cell 10 (some 2) 10,.cell 11 (some 1) 11,.t 12,.t 13],body:=
 .seq (
 .region [5,6,7,10,11] [.norm [5,6,7,10,11]] [
 ⟨some 5,none,.box 5 (some 4) false (.s 0)⟩,
 ⟨some 6,none,.box 6 (some 2) false (.s 1)⟩,
 ⟨some 7,none,.box 7 (some 1) false (.s 2)⟩,
 ⟨some 10,none,.alloc 10 [i64 0,.sl (.own 9) none 0 []]⟩,
 ⟨some 11,none,.alloc 11 [st []]⟩,
 ⟨some 12,none,.mv false (.c (i64 0))⟩,
 ⟨some 13,none,.mv false (.c (i64 0))⟩]) (
 .seq (
 .region [5,6,7,10,11,14] [] [
 ⟨some 14,none,.mv false (.c (.fn 225 [] []))⟩]) (
 .seq (
 .region [5,6,7,10,11,14,15,16] [.norm [5,6,7,10,11,15]] [
 ⟨some 22,none,.load (some 4) (some 5) false (.s 5)⟩,
 ⟨some 23,none,.load (some 2) (some 6) false (.s 6)⟩,
 ⟨some 24,none,.mv false (.s 3)⟩,
 ⟨some 25,none,.mv false (.s 4)⟩,
 ⟨some 26,none,.call 226 [(.s 22),(.s 23),(.s 24),(.s 25)] []⟩,
 ⟨some 21,none,.mv false (.s 26)⟩,
 ⟨some 27,none,.extract 0 (.s 21)⟩,
 ⟨some 28,none,.extract 1 (.s 21)⟩,
 ⟨some 15,none,.alloc 15 ([i64 0,i64 0]++[st []]++List.replicate 5 (i64 0)++[bo false])⟩,
 ⟨none,none,.store (some 9) 15 false (.s 15) (.s 27)⟩,
 ⟨some 16,none,.mv false (.s 28)⟩]) (
 .seq (
 .seq (
 .region [5,6,7,10,11,14,15,16,30] [] [
 ⟨some 29,none,.mv false (.s 16)⟩,
 ⟨some 30,none,.bin .neq (.s 29) (.c (i64 0))⟩]) (
 .cond (.s 30) (
 .seq (
 .region [10,11,12,13] [.norm [5,6,7,10,11,15]] [
 ⟨some 31,none,.mv false (.s 14)⟩,
 ⟨some 32,none,.mv false (.s 16)⟩,
 ⟨some 33,none,.callv 225 (.s 31) [(.s 32)] []⟩,
 ⟨some 34,none,.extract 0 (.s 33)⟩,
 ⟨some 35,none,.extract 1 (.s 33)⟩,
 ⟨some 36,none,.extract 2 (.s 33)⟩,
 ⟨some 37,none,.extract 3 (.s 33)⟩,
 ⟨none,none,.store (some 2) 10 false (.s 10) (.s 34)⟩,
 ⟨none,none,.store (some 1) 11 false (.s 11) (.s 35)⟩,
 ⟨some 12,none,.mv false (.s 36)⟩,
 ⟨some 13,none,.mv false (.s 37)⟩]) (
 .ret)) (
 .ghost (.keep [5,6,7,10,11,14,15]) .skip))) (
 z2M))))}

def z5o:z9a:=
 .region [3,4,5,6,9] [.norm [2,3,4,5,6,9]] [
 ⟨some 9,none,.alloc 9 ([i64 0,i64 0]++[st []]++List.replicate 5 (i64 0)++[bo false])⟩,
 ⟨none,none,.store (some 9) 9 false (.s 9) (.s 22)⟩]
def z7o:z9a:=
 .block 1 (
 .seq (
 .region [3,4,5,6,9,47] [.norm [2,3,4,5,6,9]] [
 ⟨some 23,none,.fieldAddr 0 (.s 9)⟩,
 ⟨some 24,none,.load none (some 9) false (.s 23)⟩,
 ⟨some 25,none,.load none (some 3) false (.s 3)⟩,
 ⟨some 26,none,.bin .gtr (.s 24) (.s 25)⟩,
 ⟨some 27,none,.mv false (.s 26)⟩,
 ⟨some 28,(some (27,true)),.fieldAddr 1 (.s 9)⟩,
 ⟨some 29,(some (27,true)),.load none (some 9) false (.s 28)⟩,
 ⟨some 30,(some (27,true)),.fieldAddr 1 (.s 6)⟩,
 ⟨some 31,(some (27,true)),.load none (some 6) false (.s 30)⟩,
 ⟨some 32,(some (27,true)),.bin .eql (.s 29) (.s 31)⟩,
 ⟨some 33,none,.pick (.s 27) (.s 32) (.c (bo false))⟩,
 ⟨some 34,none,.mv false (.s 33)⟩,
 ⟨some 35,(some (34,true)),.fieldAddr 7 (.s 9)⟩,
 ⟨some 36,(some (34,true)),.load none (some 9) false (.s 35)⟩,
 ⟨some 37,(some (34,true)),.load none (some 3) false (.s 3)⟩,
 ⟨some 38,(some (34,true)),.bin .eql (.s 36) (.s 37)⟩,
 ⟨some 39,none,.pick (.s 34) (.s 38) (.c (bo false))⟩,
 ⟨some 40,none,.mv false (.s 39)⟩,
 ⟨some 41,(some (40,true)),.fieldAddr 6 (.s 9)⟩,
 ⟨some 42,(some (40,true)),.load none (some 9) false (.s 41)⟩,
 ⟨some 43,(some (40,true)),.fieldAddr 6 (.s 6)⟩,
 ⟨some 44,(some (40,true)),.load none (some 6) false (.s 43)⟩,
 ⟨some 45,(some (40,true)),.bin .add (.s 44) (.c (i64 1))⟩,
 ⟨some 46,(some (40,true)),.bin .eql (.s 42) (.s 45)⟩,
 ⟨some 47,none,.pick (.s 40) (.s 46) (.c (bo false))⟩]) (
 .cond (.s 47) (
 .seq (
 .region [3,4,5,6] [.norm [2,3,4,5,6,9]] [
 ⟨some 48,none,.fieldAddr 0 (.s 9)⟩,
 ⟨some 49,none,.load none (some 9) false (.s 48)⟩,
 ⟨none,none,.store none 4 false (.s 4) (.s 49)⟩,
 ⟨none,none,.store none 5 false (.s 5) (.c (bo true))⟩]) (
 .ghost (.keep [3,4,5,6]) .ret)) (
 .ghost (.keep [3,4,5,6]) (.ghost (.drop [9]) .skip))))
def z7T:z9a:=
 .seq (
 .region [4,5] [.norm [2,3,4,5,6,9]] [
 ⟨none,none,.store none 4 false (.s 4) (.c (i64 0))⟩,
 ⟨none,none,.store none 5 false (.s 5) (.c (bo false))⟩]) (
 .ret)
def z7J:z9a:=
 .seq (
 .seq (
 .region [3,4,5,6,20] [.norm [2,3,4,5,6,20],.freeze [20]] [
 ⟨some 18,none,.fieldAddr 1 (.s 2)⟩,
 ⟨some 19,none,.load none (some 2) false (.s 18)⟩,
 ⟨some 20,none,.callm 231 none [(.s 19)] [] [(1,20)]⟩]) (
 .block 0 (
 .range 232 (.s 20) [3,4,5,6] [21,22] (
 z5o) (
 z7o)))) (
 z7T)
def z2m:z2p:=
 {n:=2,wr:=[],res:=[.cell 4 none 4,.cell 5 none 5],body:=
 .seq (
 .region [2,3,4,5] [.norm [2,3,4,5]] [
 ⟨some 2,none,.box 2 (some 2) false (.s 0)⟩,
 ⟨some 3,none,.box 3 none false (.s 1)⟩,
 ⟨some 4,none,.alloc 4 [i64 0]⟩,
 ⟨some 5,none,.alloc 5 [bo false]⟩]) (
 .seq (
 .region [2,3,4,5,6,7] [.norm [2,3,4,5,6]] [
 ⟨some 11,none,.load (some 2) (some 2) false (.s 2)⟩,
 ⟨some 12,none,.load none (some 3) false (.s 3)⟩,
 ⟨some 13,none,.call 230 [(.s 11),(.s 12)] []⟩,
 ⟨some 10,none,.mv false (.s 13)⟩,
 ⟨some 14,none,.extract 0 (.s 10)⟩,
 ⟨some 15,none,.extract 1 (.s 10)⟩,
 ⟨some 6,none,.alloc 6 ([i64 0,i64 0]++[st []]++List.replicate 5 (i64 0)++[bo false])⟩,
 ⟨none,none,.store (some 9) 6 false (.s 6) (.s 14)⟩,
 ⟨some 7,none,.mv false (.s 15)⟩]) (
 .seq (
 .seq (
 .region [2,3,4,5,6,17] [] [
 ⟨some 16,none,.mv false (.s 7)⟩,
 ⟨some 17,none,.bin .neq (.s 16) (.c (i64 0))⟩]) (
 .cond (.s 17) (
 .seq (
 .region [4,5] [.norm [2,3,4,5,6]] [
 ⟨none,none,.store none 4 false (.s 4) (.c (i64 0))⟩,
 ⟨none,none,.store none 5 false (.s 5) (.c (bo false))⟩]) (
 .ret)) (
 .ghost (.keep [2,3,4,5,6]) .skip))) (
 z7J)))}

def z6N:z9a:=
 .seq (
 .region [4,5] [.norm [2]] [
 ⟨some 17,none,.mv false (.s 6)⟩,
 ⟨some 18,none,.mv true (.s 6)⟩,
 ⟨some 19,none,.len false (.s 18)⟩,
 ⟨some 20,none,.bin .sub (.s 19) (.c (i64 1))⟩,
 ⟨some 21,none,.idxSl 1 (.s 17) (.s 20)⟩,
 ⟨some 22,none,.load none none false (.s 21)⟩,
 ⟨some 4,none,.mv false (.s 22)⟩,
 ⟨some 5,none,.mv false (.c (i64 0))⟩]) (
 .ret)
def z3l:z2p:=
 {n:=2,wr:=[],res:=[.t 4,.t 5],body:=
 .seq (
 .region [2] [.norm [2]] [
 ⟨some 2,none,.box 2 (some 2) false (.s 0)⟩,
 ⟨some 4,none,.mv false (.c (i64 0))⟩,
 ⟨some 5,none,.mv false (.c (i64 0))⟩]) (
 .seq (
 .region [6,7] [.norm [2]] [
 ⟨some 9,none,.load (some 2) (some 2) false (.s 2)⟩,
 ⟨some 10,none,.mv false (.s 1)⟩,
 ⟨some 11,none,.call 234 [(.s 9),(.s 10)] []⟩,
 ⟨some 8,none,.mv false (.s 11)⟩,
 ⟨some 12,none,.extract 0 (.s 8)⟩,
 ⟨some 13,none,.extract 1 (.s 8)⟩,
 ⟨some 6,none,.mv true (.s 12)⟩,
 ⟨some 7,none,.mv false (.s 13)⟩]) (
 .seq (
 .seq (
 .region [6,7,15] [] [
 ⟨some 14,none,.mv false (.s 7)⟩,
 ⟨some 15,none,.bin .neq (.s 14) (.c (i64 0))⟩]) (
 .cond (.s 15) (
 .seq (
 .region [4,5] [] [
 ⟨some 16,none,.mv false (.s 7)⟩,
 ⟨some 4,none,.mv false (.c (i64 0))⟩,
 ⟨some 5,none,.mv false (.s 16)⟩]) (
 .ret)) (
 .ghost (.keep [6]) .skip))) (
 z6N)))}

def z1U:z9a:=
 .seq (
 .region [4,5] [.norm [2,6,19]] [
 ⟨some 17,none,.load (some 2) (some 2) false (.s 2)⟩,
 ⟨some 18,none,.mv false (.s 1)⟩,
 ⟨some 19,none,.callm 236 none [(.s 17),(.s 18)] [] [(3,19)]⟩,
 ⟨some 20,none,.callw 237 none [(.s 19)] [(10,19)] []⟩,
 ⟨some 4,none,.mv true (.s 20)⟩,
 ⟨some 5,none,.mv false (.c (i64 0))⟩]) (
 .ret)
def z5n:z2p:=
 {n:=2,wr:=[],res:=[.t 4,.t 5],body:=
 .seq (
 .region [2] [.norm [2]] [
 ⟨some 2,none,.box 2 (some 2) false (.s 0)⟩,
 ⟨some 4,none,.mv true (.c (.sl (.own 1) none 0 []))⟩,
 ⟨some 5,none,.mv false (.c (i64 0))⟩]) (
 .seq (
 .seq (
 .region [2,7] [.norm [2,6]] [
 ⟨some 9,none,.load (some 2) (some 2) false (.s 2)⟩,
 ⟨some 10,none,.mv false (.s 1)⟩,
 ⟨some 11,none,.call 230 [(.s 9),(.s 10)] []⟩,
 ⟨some 8,none,.mv false (.s 11)⟩,
 ⟨some 12,none,.extract 0 (.s 8)⟩,
 ⟨some 13,none,.extract 1 (.s 8)⟩,
 ⟨some 6,none,.alloc 6 ([i64 0,i64 0]++[st []]++List.replicate 5 (i64 0)++[bo false])⟩,
 ⟨none,none,.store (some 9) 6 false (.s 6) (.s 12)⟩,
 ⟨some 7,none,.mv false (.s 13)⟩]) (
 .seq (
 .region [2,7,15] [] [
 ⟨some 14,none,.mv false (.s 7)⟩,
 ⟨some 15,none,.bin .neq (.s 14) (.c (i64 0))⟩]) (
 .cond (.s 15) (
 .seq (
 .region [4,5] [] [
 ⟨some 16,none,.mv false (.s 7)⟩,
 ⟨some 4,none,.mv true (.c (.sl (.own 1) none 0 []))⟩,
 ⟨some 5,none,.mv false (.s 16)⟩]) (
 .ret)) (
 .ghost (.keep [2]) .skip)))) (
 z1U))}

def z1X:z9a:=
 .region [5,6,7,10,11,14,21,22,23] [.norm [5,6,7,10,11,17,18]] [
 ⟨some 43,none,.load (some 2) (some 17) false (.s 17)⟩,
 ⟨some 44,none,.load (some 1) (some 18) false (.s 18)⟩,
 ⟨some 45,none,.mv true (.s 14)⟩,
 ⟨some 46,none,.mv false (.s 19)⟩,
 ⟨some 47,none,.buildSl 1 1 [i64 0] [(0,1,(.s 46))]⟩,
 ⟨some 48,none,.append 1 8 false none none 45 (.s 47)⟩,
 ⟨none,none,.store (some 2) 6 false (.s 6) (.s 43)⟩,
 ⟨none,none,.store (some 1) 7 false (.s 7) (.s 44)⟩,
 ⟨some 14,none,.mv true (.s 48)⟩]
def z5M:z9a:=
 .seq (
 .block 1 (
 .seq (
 .region [5,6,7,10,11,14,16,21,22,23] [.norm [5,6,7,10,11]] [
 ⟨some 25,none,.idxSl 1 (.s 21) (.s 23)⟩,
 ⟨some 26,none,.load none none false (.s 25)⟩,
 ⟨some 16,none,.mv false (.s 26)⟩]) (
 .seq (
 .region [5,6,7,10,11,14,17,18,19,20,21,22,23] [.norm [5,6,7,10,11,17,18]] [
 ⟨some 28,none,.load (some 4) (some 5) false (.s 5)⟩,
 ⟨some 29,none,.load (some 2) (some 6) false (.s 6)⟩,
 ⟨some 30,none,.load (some 1) (some 7) false (.s 7)⟩,
 ⟨some 31,none,.mv false (.s 3)⟩,
 ⟨some 32,none,.mv false (.s 16)⟩,
 ⟨some 33,none,.call 229 [(.s 28),(.s 29),(.s 30),(.s 31),(.s 32)] []⟩,
 ⟨some 27,none,.mv false (.s 33)⟩,
 ⟨some 34,none,.extract 0 (.s 27)⟩,
 ⟨some 35,none,.extract 1 (.s 27)⟩,
 ⟨some 36,none,.extract 2 (.s 27)⟩,
 ⟨some 37,none,.extract 3 (.s 27)⟩,
 ⟨some 17,none,.alloc 17 [i64 0,.sl (.own 9) none 0 []]⟩,
 ⟨some 18,none,.alloc 18 [st []]⟩,
 ⟨none,none,.store (some 2) 17 false (.s 17) (.s 34)⟩,
 ⟨none,none,.store (some 1) 18 false (.s 18) (.s 35)⟩,
 ⟨some 19,none,.mv false (.s 36)⟩,
 ⟨some 20,none,.mv false (.s 37)⟩]) (
 .seq (
 .seq (
 .region [5,6,7,10,11,14,17,18,19,20,21,22,23,39] [] [
 ⟨some 38,none,.mv false (.s 20)⟩,
 ⟨some 39,none,.bin .neq (.s 38) (.c (i64 0))⟩]) (
 .cond (.s 39) (
 .seq (
 .region [10,11,12,13] [.norm [5,6,7,10,11,17,18]] [
 ⟨some 40,none,.build [i64 0,.sl .plain none 0 []] []⟩,
 ⟨some 41,none,.build [st []] []⟩,
 ⟨some 42,none,.mv false (.s 20)⟩,
 ⟨none,none,.store (some 2) 10 false (.s 10) (.s 40)⟩,
 ⟨none,none,.store (some 1) 11 false (.s 11) (.s 41)⟩,
 ⟨some 12,none,.mv true (.c (.sl (.own 1) none 0 []))⟩,
 ⟨some 13,none,.mv false (.s 42)⟩]) (
 .ret)) (
 .ghost (.keep [5,6,7,10,11,14,17,18,19,21,22,23]) .skip))) (
 z1X))))) (
 .region [5,6,7,10,11,14,21,22,23] [.drop [17,18]] [
 ⟨some 49,none,.bin .add (.s 23) (.c (i64 1))⟩,
 ⟨some 23,none,.mv false (.s 49)⟩])
def z6A:z9a:=
 .seq (
 .region [5,6,7,10,11,14,21,22,23,24] [] [
 ⟨some 24,none,.bin .lss (.s 23) (.s 22)⟩]) (
 .seq (
 .cond (.s 24) (
 .ghost (.keep [5,6,7,10,11,14,21,22,23]) .skip) (
 .ghost (.keep [6,7,10,11,14]) (.exit 0))) (
 z5M))
def z3W:z9a:=
 .seq (
 .region [10,11,12,13] [.norm [5,6,7,10,11,17,18]] [
 ⟨some 50,none,.load (some 2) (some 6) false (.s 6)⟩,
 ⟨some 51,none,.load (some 1) (some 7) false (.s 7)⟩,
 ⟨some 52,none,.mv true (.s 14)⟩,
 ⟨none,none,.store (some 2) 10 false (.s 10) (.s 50)⟩,
 ⟨none,none,.store (some 1) 11 false (.s 11) (.s 51)⟩,
 ⟨some 12,none,.mv true (.s 52)⟩,
 ⟨some 13,none,.mv false (.c (i64 0))⟩]) (
 .ret)
def z4r:z2p:=
 {n:=5,wr:=[],res:=[.cell 10 (some 2) 10,.cell 11 (some 1) 11,.t 12,.t 13],body:=
 .seq (
 .region [5,6,7,10,11] [.norm [5,6,7,10,11]] [
 ⟨some 5,none,.box 5 (some 4) false (.s 0)⟩,
 ⟨some 6,none,.box 6 (some 2) false (.s 1)⟩,
 ⟨some 7,none,.box 7 (some 1) false (.s 2)⟩,
 ⟨some 10,none,.alloc 10 [i64 0,.sl (.own 9) none 0 []]⟩,
 ⟨some 11,none,.alloc 11 [st []]⟩,
 ⟨some 12,none,.mv true (.c (.sl (.own 1) none 0 []))⟩,
 ⟨some 13,none,.mv false (.c (i64 0))⟩]) (
 .seq (
 .region [5,6,7,10,11,14] [] [
 ⟨some 14,none,.mv true (.c (.sl (.own 1) none 0 []))⟩]) (
 .seq (
 .seq (
 .region [5,6,7,10,11,14,21,22,23] [] [
 ⟨some 21,none,.mv false (.s 4)⟩,
 ⟨some 22,none,.len false (.s 21)⟩,
 ⟨some 23,none,.mv false (.c (i64 0))⟩]) (
 .block 0 (
 .loop z6A))) (
 z3W)))}

def z4q:z9a:=
 .seq (
 .block 1 (
 .seq (
 .region [4,5,9,11,25,26,27] [.norm [4,5,11]] [
 ⟨some 29,none,.idxSl 9 (.s 25) (.s 27)⟩,
 ⟨some 30,none,.load (some 9) none false (.s 29)⟩,
 ⟨some 11,none,.alloc 11 ([i64 0,i64 0]++[st []]++List.replicate 5 (i64 0)++[bo false])⟩,
 ⟨none,none,.store (some 9) 11 false (.s 11) (.s 30)⟩]) (
 .seq (
 .region [4,5,9,11,13,25,26,27] [.norm [4,5,11]] [
 ⟨some 32,none,.load (some 2) (some 5) false (.s 5)⟩,
 ⟨some 33,none,.fieldAddr 0 (.s 11)⟩,
 ⟨some 34,none,.load none (some 11) false (.s 33)⟩,
 ⟨some 35,none,.call 233 [(.s 32),(.s 34)] []⟩,
 ⟨some 31,none,.mv false (.s 35)⟩,
 ⟨some 36,none,.extract 0 (.s 31)⟩,
 ⟨some 37,none,.extract 1 (.s 31)⟩,
 ⟨some 12,none,.mv false (.s 36)⟩,
 ⟨some 13,none,.mv false (.s 37)⟩]) (
 .seq (
 .region [4,5,9,11,25,26,27,58] [.norm [4,5,11]] [
 ⟨some 38,none,.mv false (.s 13)⟩,
 ⟨some 39,none,.un .not (.s 38)⟩,
 ⟨some 40,none,.mv false (.s 39)⟩,
 ⟨some 41,(some (40,true)),.load (some 9) (some 11) false (.s 11)⟩,
 ⟨some 42,(some (40,true)),.mv false (.s 2)⟩,
 ⟨some 43,(some (40,true)),.call 239 [(.s 41),(.s 42)] []⟩,
 ⟨some 44,none,.pick (.s 40) (.s 43) (.c (bo false))⟩,
 ⟨some 45,none,.mv false (.s 44)⟩,
 ⟨some 46,(some (45,true)),.load (some 4) (some 4) false (.s 4)⟩,
 ⟨some 47,(some (45,true)),.fieldAddr 1 (.s 11)⟩,
 ⟨some 48,(some (45,true)),.load none (some 11) false (.s 47)⟩,
 ⟨some 49,(some (45,true)),.call 240 [(.s 46),(.s 48),(.c (i64 1))] []⟩,
 ⟨some 50,none,.pick (.s 45) (.s 49) (.c (bo false))⟩,
 ⟨some 51,none,.mv false (.s 50)⟩,
 ⟨some 52,(some (51,true)),.fieldAddr 5 (.s 11)⟩,
 ⟨some 53,(some (51,true)),.load none (some 11) false (.s 52)⟩,
 ⟨some 54,(some (51,true)),.mv false (.s 2)⟩,
 ⟨some 55,(some (51,true)),.mv false (.s 3)⟩,
 ⟨some 56,(some (51,true)),.bin .add (.s 54) (.s 55)⟩,
 ⟨some 57,(some (51,true)),.bin .leq (.s 53) (.s 56)⟩,
 ⟨some 58,none,.pick (.s 51) (.s 57) (.c (bo false))⟩]) (
 .cond (.s 58) (
 .region [4,5,9,25,26,27] [.norm [4,5,11]] [
 ⟨some 59,none,.mv true (.s 9)⟩,
 ⟨some 60,none,.fieldAddr 0 (.s 11)⟩,
 ⟨some 61,none,.load none (some 11) false (.s 60)⟩,
 ⟨some 62,none,.buildSl 1 1 [i64 0] [(0,1,(.s 61))]⟩,
 ⟨some 63,none,.append 1 8 false none none 59 (.s 62)⟩,
 ⟨some 9,none,.mv true (.s 63)⟩]) (
 .ghost (.keep [4,5,9,25,26,27]) .skip)))))) (
 .region [4,5,9,25,26,27] [.drop [11]] [
 ⟨some 64,none,.bin .add (.s 27) (.c (i64 1))⟩,
 ⟨some 27,none,.mv false (.s 64)⟩])
def z0o:z9a:=
 .seq (
 .region [4,5,9,25,26,27,28] [] [
 ⟨some 28,none,.bin .lss (.s 27) (.s 26)⟩]) (
 .seq (
 .cond (.s 28) (
 .ghost (.keep [4,5,9,25,26,27]) .skip) (
 .ghost (.keep [9]) (.exit 0))) (
 z4q))
def z6U:z9a:=
 .seq (
 .region [8] [] [
 ⟨some 65,none,.mv true (.s 9)⟩,
 ⟨some 8,none,.mv true (.s 65)⟩]) (
 .ret)
def z2X:z9a:=
 .seq (
 .seq (
 .region [4,5,9,25,26,27] [.norm [4,5]] [
 ⟨some 24,none,.fieldAddr 1 (.s 5)⟩,
 ⟨some 25,none,.load none (some 5) false (.s 24)⟩,
 ⟨some 26,none,.len false (.s 25)⟩,
 ⟨some 27,none,.mv false (.c (i64 0))⟩]) (
 .block 0 (
 .loop z0o))) (
 z6U)
def z8n:z2p:=
 {n:=4,wr:=[],res:=[.t 8],body:=
 .seq (
 .region [4,5] [.norm [4,5]] [
 ⟨some 4,none,.box 4 (some 4) false (.s 0)⟩,
 ⟨some 5,none,.box 5 (some 2) false (.s 1)⟩,
 ⟨some 8,none,.mv true (.c (.sl (.own 1) none 0 []))⟩]) (
 .seq (
 .region [4,5,9] [] [
 ⟨some 9,none,.mv true (.c (.sl (.own 1) none 0 []))⟩]) (
 .seq (
 .seq (
 .region [4,5,9,23] [] [
 ⟨some 14,none,.mv false (.s 2)⟩,
 ⟨some 15,none,.mv false (.s 3)⟩,
 ⟨some 16,none,.min2 (.s 14) (.s 15)⟩,
 ⟨some 17,none,.bin .lss (.s 16) (.c (i64 0))⟩,
 ⟨some 18,none,.mv false (.s 17)⟩,
 ⟨some 19,(some (18,false)),.mv false (.s 2)⟩,
 ⟨some 20,(some (18,false)),.mv false (.s 3)⟩,
 ⟨some 21,(some (18,false)),.max2 (.s 19) (.s 20)⟩,
 ⟨some 22,(some (18,false)),.bin .gtr (.s 21) (.c (i64 1099511627776))⟩,
 ⟨some 23,none,.pick (.s 18) (.c (bo true)) (.s 22)⟩]) (
 .cond (.s 23) (
 .seq (
 .region [8] [] [
 ⟨some 8,none,.mv true (.c (.sl (.own 1) none 0 []))⟩]) (
 .ret)) (
 .ghost (.keep [4,5,9]) .skip))) (
 z2X)))}

def z3S:z9a:=
 .seq (
 .region [4,5] [.norm [2,4]] [
 ⟨some 18,none,.fieldAddr 1 (.s 2)⟩,
 ⟨some 19,none,.load none (some 2) false (.s 18)⟩,
 ⟨some 20,none,.mv false (.s 6)⟩,
 ⟨some 21,none,.idxSl 9 (.s 19) (.s 20)⟩,
 ⟨some 22,none,.load (some 9) none false (.s 21)⟩,
 ⟨none,none,.store (some 9) 4 false (.s 4) (.s 22)⟩,
 ⟨some 5,none,.mv false (.c (i64 0))⟩]) (
 .ret)
def z6w:z2p:=
 {n:=2,wr:=[],res:=[.cell 4 (some 9) 4,.t 5],body:=
 .seq (
 .region [2,4] [.norm [2,4]] [
 ⟨some 2,none,.box 2 (some 2) false (.s 0)⟩,
 ⟨some 4,none,.alloc 4 ([i64 0,i64 0]++[st []]++List.replicate 5 (i64 0)++[bo false])⟩,
 ⟨some 5,none,.mv false (.c (i64 0))⟩]) (
 .seq (
 .region [2,4,6,7] [.norm [2,4]] [
 ⟨some 9,none,.load (some 2) (some 2) false (.s 2)⟩,
 ⟨some 10,none,.mv false (.s 1)⟩,
 ⟨some 11,none,.call 242 [(.s 9),(.s 10)] []⟩,
 ⟨some 8,none,.mv false (.s 11)⟩,
 ⟨some 12,none,.extract 0 (.s 8)⟩,
 ⟨some 13,none,.extract 1 (.s 8)⟩,
 ⟨some 6,none,.mv false (.s 12)⟩,
 ⟨some 7,none,.mv false (.s 13)⟩]) (
 .seq (
 .seq (
 .region [2,4,6,7,15] [] [
 ⟨some 14,none,.mv false (.s 7)⟩,
 ⟨some 15,none,.bin .neq (.s 14) (.c (i64 0))⟩]) (
 .cond (.s 15) (
 .seq (
 .region [4,5] [.norm [2,4]] [
 ⟨some 16,none,.build ([i64 0,i64 0]++[st []]++List.replicate 5 (i64 0)++[bo false]) []⟩,
 ⟨some 17,none,.mv false (.s 7)⟩,
 ⟨none,none,.store (some 9) 4 false (.s 4) (.s 16)⟩,
 ⟨some 5,none,.mv false (.s 17)⟩]) (
 .ret)) (
 .ghost (.keep [2,4,6]) .skip))) (
 z3S)))}

def z7n:z2p:=
 {n:=1,wr:=[],res:=[.cell 2 (some 2) 2,.cell 3 (some 1) 3,.t 4,.t 5],body:=
 .seq (
 .region [2,3] [.norm [2,3]] [
 ⟨some 2,none,.alloc 2 [i64 0,.sl (.own 9) none 0 []]⟩,
 ⟨some 3,none,.alloc 3 [st []]⟩,
 ⟨some 4,none,.mv false (.c (i64 0))⟩,
 ⟨some 5,none,.mv false (.c (i64 0))⟩]) (
 .seq (
 .region [2,3,4,5] [.norm [2,3]] [
 ⟨some 6,none,.build [i64 0,.sl .plain none 0 []] []⟩,
 ⟨some 7,none,.build [st []] []⟩,
 ⟨some 8,none,.mv false (.s 0)⟩,
 ⟨none,none,.store (some 2) 2 false (.s 2) (.s 6)⟩,
 ⟨none,none,.store (some 1) 3 false (.s 3) (.s 7)⟩,
 ⟨some 4,none,.mv false (.c (i64 0))⟩,
 ⟨some 5,none,.mv false (.s 8)⟩]) (
 .ret))}

def z9R:z9a:=
 .seq (
 .region [8,9] [.norm [4,5,8,10]] [
 ⟨some 69,none,.load (some 9) (some 10) false (.s 10)⟩,
 ⟨none,none,.store (some 9) 8 false (.s 8) (.s 69)⟩,
 ⟨some 9,none,.mv false (.c (i64 0))⟩]) (
 .ret)
def z8i:z9a:=
 .seq (
 .region [4,5,8,10,11] [.norm [4,5,8,10]] [
 ⟨some 22,none,.load (some 2) (some 5) false (.s 5)⟩,
 ⟨some 23,none,.mv false (.s 3)⟩,
 ⟨some 24,none,.call 230 [(.s 22),(.s 23)] []⟩,
 ⟨some 21,none,.mv false (.s 24)⟩,
 ⟨some 25,none,.extract 0 (.s 21)⟩,
 ⟨some 26,none,.extract 1 (.s 21)⟩,
 ⟨some 10,none,.alloc 10 ([i64 0,i64 0]++[st []]++List.replicate 5 (i64 0)++[bo false])⟩,
 ⟨none,none,.store (some 9) 10 false (.s 10) (.s 25)⟩,
 ⟨some 11,none,.mv false (.s 26)⟩]) (
 .seq (
 .region [4,8,10,11,13] [.norm [4,5,8,10]] [
 ⟨some 28,none,.load (some 2) (some 5) false (.s 5)⟩,
 ⟨some 29,none,.mv false (.s 3)⟩,
 ⟨some 30,none,.call 233 [(.s 28),(.s 29)] []⟩,
 ⟨some 27,none,.mv false (.s 30)⟩,
 ⟨some 31,none,.extract 0 (.s 27)⟩,
 ⟨some 32,none,.extract 1 (.s 27)⟩,
 ⟨some 12,none,.mv false (.s 31)⟩,
 ⟨some 13,none,.mv false (.s 32)⟩]) (
 .seq (
 .block 0 (
 .seq (
 .region [4,8,10,11,13,33] [] [
 ⟨some 34,none,.mv false (.s 11)⟩,
 ⟨some 35,none,.bin .neq (.s 34) (.c (i64 0))⟩,
 ⟨some 33,none,.mv false (.s 35)⟩]) (
 .cond (.s 33) (
 .seq (
 .region [8,9] [.norm [4,5,8,10]] [
 ⟨some 36,none,.load (some 9) (some 10) false (.s 10)⟩,
 ⟨some 37,none,.mv false (.s 11)⟩,
 ⟨none,none,.store (some 9) 8 false (.s 8) (.s 36)⟩,
 ⟨some 9,none,.mv false (.s 37)⟩]) (
 .ret)) (
 .seq (
 .region [4,8,10,13,38] [.norm [4,5,8,10]] [
 ⟨some 39,none,.load (some 9) (some 10) false (.s 10)⟩,
 ⟨some 40,none,.mv false (.s 2)⟩,
 ⟨some 41,none,.call 239 [(.s 39),(.s 40)] []⟩,
 ⟨some 42,none,.un .not (.s 41)⟩,
 ⟨some 38,none,.mv false (.s 42)⟩]) (
 .cond (.s 38) (
 .seq (
 .region [8,9] [.norm [4,5,8,10]] [
 ⟨some 43,none,.load (some 9) (some 10) false (.s 10)⟩,
 ⟨none,none,.store (some 9) 8 false (.s 8) (.s 43)⟩,
 ⟨some 9,none,.mv false (.c (i64 13))⟩]) (
 .ret)) (
 .seq (
 .region [4,8,10,44] [] [
 ⟨some 45,none,.mv false (.s 13)⟩,
 ⟨some 44,none,.mv false (.s 45)⟩]) (
 .cond (.s 44) (
 .seq (
 .region [8,9] [.norm [4,5,8,10]] [
 ⟨some 46,none,.load (some 9) (some 10) false (.s 10)⟩,
 ⟨none,none,.store (some 9) 8 false (.s 8) (.s 46)⟩,
 ⟨some 9,none,.mv false (.c (i64 12))⟩]) (
 .ret)) (
 .seq (
 .region [8,10,47] [.norm [4,5,8,10]] [
 ⟨some 48,none,.load (some 4) (some 4) false (.s 4)⟩,
 ⟨some 49,none,.fieldAddr 1 (.s 10)⟩,
 ⟨some 50,none,.load none (some 10) false (.s 49)⟩,
 ⟨some 51,none,.call 240 [(.s 48),(.s 50),(.c (i64 1))] []⟩,
 ⟨some 52,none,.un .not (.s 51)⟩,
 ⟨some 53,none,.mv false (.s 52)⟩,
 ⟨some 54,(some (53,false)),.fieldAddr 3 (.s 10)⟩,
 ⟨some 55,(some (53,false)),.load none (some 10) false (.s 54)⟩,
 ⟨some 56,(some (53,false)),.load (some 4) (some 4) false (.s 4)⟩,
 ⟨some 57,(some (53,false)),.fieldAddr 1 (.s 10)⟩,
 ⟨some 58,(some (53,false)),.load none (some 10) false (.s 57)⟩,
 ⟨some 59,(some (53,false)),.call 244 [(.s 56),(.s 58)] []⟩,
 ⟨some 60,(some (53,false)),.call 245 [(.s 55),(.s 59)] []⟩,
 ⟨some 61,(some (53,false)),.un .not (.s 60)⟩,
 ⟨some 62,none,.pick (.s 53) (.c (bo true)) (.s 61)⟩,
 ⟨some 47,none,.mv false (.s 62)⟩]) (
 .cond (.s 47) (
 .seq (
 .region [8,9] [.norm [4,5,8,10]] [
 ⟨some 63,none,.load (some 9) (some 10) false (.s 10)⟩,
 ⟨none,none,.store (some 9) 8 false (.s 8) (.s 63)⟩,
 ⟨some 9,none,.mv false (.c (i64 10))⟩]) (
 .ret)) (
 .seq (
 .region [8,10,64] [.norm [4,5,8,10]] [
 ⟨some 65,none,.fieldAddr 6 (.s 10)⟩,
 ⟨some 66,none,.load none (some 10) false (.s 65)⟩,
 ⟨some 67,none,.bin .eql (.s 66) (.c (i64 2147483647))⟩,
 ⟨some 64,none,.mv false (.s 67)⟩]) (
 .cond (.s 64) (
 .seq (
 .region [8,9] [.norm [4,5,8,10]] [
 ⟨some 68,none,.load (some 9) (some 10) false (.s 10)⟩,
 ⟨none,none,.store (some 9) 8 false (.s 8) (.s 68)⟩,
 ⟨some 9,none,.mv false (.c (i64 2))⟩]) (
 .ret)) (
 .ghost (.keep [8,10]) .skip)))))))))))) (
 z9R)))
def z4d:z2p:=
 {n:=4,wr:=[],res:=[.cell 8 (some 9) 8,.t 9],body:=
 .seq (
 .region [4,5,8] [.norm [4,5,8]] [
 ⟨some 4,none,.box 4 (some 4) false (.s 0)⟩,
 ⟨some 5,none,.box 5 (some 2) false (.s 1)⟩,
 ⟨some 8,none,.alloc 8 ([i64 0,i64 0]++[st []]++List.replicate 5 (i64 0)++[bo false])⟩,
 ⟨some 9,none,.mv false (.c (i64 0))⟩]) (
 .seq (
 .seq (
 .region [4,5,8,19] [] [
 ⟨some 14,none,.mv false (.s 2)⟩,
 ⟨some 15,none,.bin .lss (.s 14) (.c (i64 0))⟩,
 ⟨some 16,none,.mv false (.s 15)⟩,
 ⟨some 17,(some (16,false)),.mv false (.s 2)⟩,
 ⟨some 18,(some (16,false)),.bin .geq (.s 17) (.c (i64 1099511627776))⟩,
 ⟨some 19,none,.pick (.s 16) (.c (bo true)) (.s 18)⟩]) (
 .cond (.s 19) (
 .seq (
 .region [8,9] [.norm [4,5,8]] [
 ⟨some 20,none,.build ([i64 0,i64 0]++[st []]++List.replicate 5 (i64 0)++[bo false]) []⟩,
 ⟨none,none,.store (some 9) 8 false (.s 8) (.s 20)⟩,
 ⟨some 9,none,.mv false (.c (i64 1))⟩]) (
 .ret)) (
 .ghost (.keep [4,5,8]) .skip))) (
 z8i))}

def z65:z9a:=
 .seq (
 .region [2,3,4,6] [.norm [2,3,4],.thawB 2 1 1002,.norm [2,3,4,1002]] [
 ⟨some 30,none,.fieldAddr 1 (.s 2)⟩,
 ⟨some 31,none,.load none (some 2) false (.s 30)⟩,
 ⟨some 32,none,.call 247 [(.s 31)] []⟩,
 ⟨some 33,none,.fieldAddr 1 (.s 2)⟩,
 ⟨none,none,.store none 2 true (.s 33) (.s 32)⟩]) (
 .seq (
 .region [2,4] [.norm [2,3,4,1002]] [
 ⟨some 34,none,.fieldAddr 1 (.s 2)⟩,
 ⟨some 35,none,.load none (some 2) false (.s 34)⟩,
 ⟨some 36,none,.mv false (.s 6)⟩,
 ⟨some 37,none,.load (some 9) (some 3) false (.s 3)⟩,
 ⟨some 38,none,.idxSl 9 (.s 35) (.s 36)⟩,
 ⟨none,none,.store (some 9) 1002 false (.s 38) (.s 37)⟩]) (
 .seq (
 .region [4,5] [.norm [2,3,4,1002],.freeze [1002]] [
 ⟨some 39,none,.load (some 2) (some 2) false (.s 2)⟩,
 ⟨none,none,.store (some 2) 4 false (.s 4) (.s 39)⟩,
 ⟨some 5,none,.mv false (.c (i64 0))⟩]) (
 .ret)))
def z1A:z9a:=
 .seq (
 .region [2,3,4,6,7] [.norm [2,3,4]] [
 ⟨some 20,none,.load (some 2) (some 2) false (.s 2)⟩,
 ⟨some 21,none,.fieldAddr 0 (.s 3)⟩,
 ⟨some 22,none,.load none (some 3) false (.s 21)⟩,
 ⟨some 23,none,.call 242 [(.s 20),(.s 22)] []⟩,
 ⟨some 19,none,.mv false (.s 23)⟩,
 ⟨some 24,none,.extract 0 (.s 19)⟩,
 ⟨some 25,none,.extract 1 (.s 19)⟩,
 ⟨some 6,none,.mv false (.s 24)⟩,
 ⟨some 7,none,.mv false (.s 25)⟩]) (
 .seq (
 .seq (
 .region [2,3,4,6,7,27] [] [
 ⟨some 26,none,.mv false (.s 7)⟩,
 ⟨some 27,none,.bin .neq (.s 26) (.c (i64 0))⟩]) (
 .cond (.s 27) (
 .seq (
 .region [4,5] [.norm [2,3,4]] [
 ⟨some 28,none,.build [i64 0,.sl .plain none 0 []] []⟩,
 ⟨some 29,none,.mv false (.s 7)⟩,
 ⟨none,none,.store (some 2) 4 false (.s 4) (.s 28)⟩,
 ⟨some 5,none,.mv false (.s 29)⟩]) (
 .ret)) (
 .ghost (.keep [2,3,4,6]) .skip))) (
 z65))
def z9q:z2p:=
 {n:=2,wr:=[],res:=[.cell 4 (some 2) 4,.t 5],body:=
 .seq (
 .region [2,3,4] [.norm [2,3,4]] [
 ⟨some 2,none,.box 2 (some 2) false (.s 0)⟩,
 ⟨some 3,none,.box 3 (some 9) false (.s 1)⟩,
 ⟨some 4,none,.alloc 4 [i64 0,.sl (.own 9) none 0 []]⟩,
 ⟨some 5,none,.mv false (.c (i64 0))⟩]) (
 .seq (
 .seq (
 .region [2,3,4,17] [.norm [2,3,4]] [
 ⟨some 8,none,.load (some 9) (some 3) false (.s 3)⟩,
 ⟨some 9,none,.call 246 [(.s 8)] []⟩,
 ⟨some 10,none,.un .not (.s 9)⟩,
 ⟨some 11,none,.mv false (.s 10)⟩,
 ⟨some 12,(some (11,false)),.fieldAddr 7 (.s 3)⟩,
 ⟨some 13,(some (11,false)),.load none (some 3) false (.s 12)⟩,
 ⟨some 14,(some (11,false)),.fieldAddr 0 (.s 2)⟩,
 ⟨some 15,(some (11,false)),.load none (some 2) false (.s 14)⟩,
 ⟨some 16,(some (11,false)),.bin .geq (.s 13) (.s 15)⟩,
 ⟨some 17,none,.pick (.s 11) (.c (bo true)) (.s 16)⟩]) (
 .cond (.s 17) (
 .seq (
 .region [4,5] [.norm [2,3,4]] [
 ⟨some 18,none,.build [i64 0,.sl .plain none 0 []] []⟩,
 ⟨none,none,.store (some 2) 4 false (.s 4) (.s 18)⟩,
 ⟨some 5,none,.mv false (.c (i64 1))⟩]) (
 .ret)) (
 .ghost (.keep [2,3,4]) .skip))) (
 z1A))}

def z8w:z9a:=
 .seq (
 .region [2,3,4] [.norm [2,3,4]] [
 ⟨some 30,none,.fieldAddr 0 (.s 2)⟩,
 ⟨some 31,none,.load none (some 2) false (.s 30)⟩,
 ⟨some 32,none,.fieldAddr 0 (.s 3)⟩,
 ⟨none,none,.store none 3 false (.s 32) (.s 31)⟩]) (
 .seq (
 .region [4,5,6] [.norm [2,3,4]] [
 ⟨some 33,none,.fieldAddr 0 (.s 2)⟩,
 ⟨some 34,none,.load none (some 2) false (.s 33)⟩,
 ⟨some 35,none,.bin .add (.s 34) (.c (i64 1))⟩,
 ⟨some 36,none,.fieldAddr 1 (.s 2)⟩,
 ⟨some 37,none,.load none (some 2) false (.s 36)⟩,
 ⟨some 38,none,.call 248 [(.s 37)] []⟩,
 ⟨some 39,none,.load (some 9) (some 3) false (.s 3)⟩,
 ⟨some 40,none,.buildSl 9 1 [i64 0,i64 0,st [],i64 0,i64 0,i64 0,i64 0,i64 0,bo false] [(0,9,(.s 39))]⟩,
 ⟨some 41,none,.appendC 9 80 false none none (.s 38) (.s 40)⟩,
 ⟨some 42,none,.build [i64 0,.sl .plain none 0 []] [(0,1,(.s 35)),(1,1,(.s 41))]⟩,
 ⟨some 43,none,.fieldAddr 0 (.s 3)⟩,
 ⟨some 44,none,.load none (some 3) false (.s 43)⟩,
 ⟨none,none,.store (some 2) 4 false (.s 4) (.s 42)⟩,
 ⟨some 5,none,.mv false (.s 44)⟩,
 ⟨some 6,none,.mv false (.c (i64 0))⟩]) (
 .ret))
def z6o:z2p:=
 {n:=2,wr:=[],res:=[.cell 4 (some 2) 4,.t 5,.t 6],body:=
 .seq (
 .region [2,3,4] [.norm [2,3,4]] [
 ⟨some 2,none,.box 2 (some 2) false (.s 0)⟩,
 ⟨some 3,none,.box 3 (some 9) false (.s 1)⟩,
 ⟨some 4,none,.alloc 4 [i64 0,.sl (.own 9) none 0 []]⟩,
 ⟨some 5,none,.mv false (.c (i64 0))⟩,
 ⟨some 6,none,.mv false (.c (i64 0))⟩]) (
 .seq (
 .block 0 (
 .seq (
 .region [2,3,4,7] [.norm [2,3,4]] [
 ⟨some 8,none,.load (some 9) (some 3) false (.s 3)⟩,
 ⟨some 9,none,.call 246 [(.s 8)] []⟩,
 ⟨some 10,none,.un .not (.s 9)⟩,
 ⟨some 11,none,.mv false (.s 10)⟩,
 ⟨some 12,(some (11,false)),.fieldAddr 7 (.s 3)⟩,
 ⟨some 13,(some (11,false)),.load none (some 3) false (.s 12)⟩,
 ⟨some 14,(some (11,false)),.fieldAddr 0 (.s 2)⟩,
 ⟨some 15,(some (11,false)),.load none (some 2) false (.s 14)⟩,
 ⟨some 16,(some (11,false)),.bin .geq (.s 13) (.s 15)⟩,
 ⟨some 17,none,.pick (.s 11) (.c (bo true)) (.s 16)⟩,
 ⟨some 7,none,.mv false (.s 17)⟩]) (
 .cond (.s 7) (
 .seq (
 .region [4,5,6] [.norm [2,3,4]] [
 ⟨some 18,none,.build [i64 0,.sl .plain none 0 []] []⟩,
 ⟨none,none,.store (some 2) 4 false (.s 4) (.s 18)⟩,
 ⟨some 5,none,.mv false (.c (i64 0))⟩,
 ⟨some 6,none,.mv false (.c (i64 1))⟩]) (
 .ret)) (
 .seq (
 .region [2,3,4,19] [.norm [2,3,4]] [
 ⟨some 20,none,.fieldAddr 1 (.s 2)⟩,
 ⟨some 21,none,.load none (some 2) false (.s 20)⟩,
 ⟨some 22,none,.len false (.s 21)⟩,
 ⟨some 23,none,.bin .geq (.s 22) (.c (i64 4096))⟩,
 ⟨some 24,none,.mv false (.s 23)⟩,
 ⟨some 25,(some (24,false)),.fieldAddr 0 (.s 2)⟩,
 ⟨some 26,(some (24,false)),.load none (some 2) false (.s 25)⟩,
 ⟨some 27,(some (24,false)),.bin .geq (.s 26) (.c (i64 2147483647))⟩,
 ⟨some 28,none,.pick (.s 24) (.c (bo true)) (.s 27)⟩,
 ⟨some 19,none,.mv false (.s 28)⟩]) (
 .cond (.s 19) (
 .seq (
 .region [4,5,6] [.norm [2,3,4]] [
 ⟨some 29,none,.build [i64 0,.sl .plain none 0 []] []⟩,
 ⟨none,none,.store (some 2) 4 false (.s 4) (.s 29)⟩,
 ⟨some 5,none,.mv false (.c (i64 0))⟩,
 ⟨some 6,none,.mv false (.c (i64 2))⟩]) (
 .ret)) (
 .ghost (.keep [2,3,4]) .skip)))))) (
 z8w))}

def z9l:z2p:=
 {n:=1,wr:=[],res:=[.t 2],body:=
 .seq (
 .region [1] [.norm [1]] [
 ⟨some 1,none,.box 1 none true (.s 0)⟩,
 ⟨some 2,none,.mv false (.c (.lit .nilFunc))⟩]) (
 .seq (
 .region [2] [] [
 ⟨some 3,none,.mkfn 232 [] [(.s 1)]⟩,
 ⟨some 2,none,.mv false (.s 3)⟩]) (
 .ret))}

def z2n:z2p:=
 {n:=1,wr:=[],res:=[.t 2],body:=
 .seq (
 .region [0] [] [
 ⟨some 2,none,.mv true (.c (.sl (.own 1) none 0 []))⟩]) (
 .seq (
 .region [0,2] [.norm [10]] [
 ⟨some 3,none,.mv false (.s 0)⟩,
 ⟨some 4,none,.callw 249 none [(.c (.sl .plain (some true) 0 [])),(.s 3)] [(10,10)] []⟩,
 ⟨some 2,none,.mv true (.s 4)⟩]) (
 .ret))}

def z1t:z2p:=
 {n:=2,wr:=[],res:=[.t 4],body:=
 .seq (
 .region [2,3] [.norm [2,3]] [
 ⟨some 2,none,.box 2 (some 2) false (.s 0)⟩,
 ⟨some 3,none,.box 3 none false (.s 1)⟩,
 ⟨some 4,none,.mv false (.c (.lit .nilFunc))⟩]) (
 .seq (
 .region [4] [.norm [2,3],.freeze [2],.norm [3]] [
 ⟨some 5,none,.mkfn 250 [] [(.s 3),(.s 2)]⟩,
 ⟨some 4,none,.mv false (.s 5)⟩]) (
 .ret))}

def z4s:z2p:=
 {n:=2,wr:=[],res:=[.t 4],body:=
 .seq (
 .region [2] [.norm [2]] [
 ⟨some 2,none,.box 2 (some 9) false (.s 0)⟩,
 ⟨some 4,none,.mv false (.c (bo false))⟩]) (
 .seq (
 .region [4] [.norm [2]] [
 ⟨some 5,none,.fieldAddr 4 (.s 2)⟩,
 ⟨some 6,none,.load none (some 2) false (.s 5)⟩,
 ⟨some 7,none,.mv false (.s 1)⟩,
 ⟨some 8,none,.bin .leq (.s 6) (.s 7)⟩,
 ⟨some 9,none,.mv false (.s 8)⟩,
 ⟨some 10,(some (9,true)),.mv false (.s 1)⟩,
 ⟨some 11,(some (9,true)),.fieldAddr 5 (.s 2)⟩,
 ⟨some 12,(some (9,true)),.load none (some 2) false (.s 11)⟩,
 ⟨some 13,(some (9,true)),.bin .lss (.s 10) (.s 12)⟩,
 ⟨some 14,none,.pick (.s 9) (.s 13) (.c (bo false))⟩,
 ⟨some 4,none,.mv false (.s 14)⟩]) (
 .ret))}

def z7w:z2p:=
 {n:=3,wr:=[],res:=[.t 6],body:=
 .seq (
 .region [3] [.norm [3]] [
 ⟨some 3,none,.box 3 (some 4) false (.s 0)⟩,
 ⟨some 6,none,.mv false (.c (bo false))⟩]) (
 .seq (
 .region [6] [.norm [3]] [
 ⟨some 7,none,.load (some 4) (some 3) false (.s 3)⟩,
 ⟨some 8,none,.mv false (.s 1)⟩,
 ⟨some 9,none,.call 251 [(.s 7),(.s 8)] []⟩,
 ⟨some 10,none,.mv false (.s 9)⟩,
 ⟨some 11,(some (10,true)),.mv false (.s 2)⟩,
 ⟨some 12,(some (10,true)),.fieldAddr 1 (.s 3)⟩,
 ⟨some 13,(some (10,true)),.load none (some 3) false (.s 12)⟩,
 ⟨some 14,(some (10,true)),.mv false (.s 1)⟩,
 ⟨some 15,(some (10,true)),.idxSl 3 (.s 13) (.s 14)⟩,
 ⟨some 16,(some (10,true)),.fieldAddr 1 (.s 15)⟩,
 ⟨some 17,(some (10,true)),.load none none false (.s 16)⟩,
 ⟨some 18,(some (10,true)),.call 245 [(.s 11),(.s 17)] []⟩,
 ⟨some 19,none,.pick (.s 10) (.s 18) (.c (bo false))⟩,
 ⟨some 6,none,.mv false (.s 19)⟩]) (
 .ret))}

def z2P:z9a:=
 .seq (
 .region [4,5] [] [
 ⟨some 17,none,.mv false (.s 6)⟩,
 ⟨some 4,none,.mv false (.s 17)⟩,
 ⟨some 5,none,.mv false (.c (i64 0))⟩]) (
 .ret)
def z5s:z2p:=
 {n:=2,wr:=[],res:=[.t 4,.t 5],body:=
 .seq (
 .region [2] [.norm [2]] [
 ⟨some 2,none,.box 2 (some 2) false (.s 0)⟩,
 ⟨some 4,none,.mv false (.c (i64 0))⟩,
 ⟨some 5,none,.mv false (.c (i64 0))⟩]) (
 .seq (
 .region [6,7] [.norm [2]] [
 ⟨some 9,none,.fieldAddr 1 (.s 2)⟩,
 ⟨some 10,none,.load none (some 2) false (.s 9)⟩,
 ⟨some 11,none,.mv false (.s 1)⟩,
 ⟨some 12,none,.call 252 [(.s 10),(.s 11),(.c (.fn 253 [] []))] []⟩,
 ⟨some 8,none,.mv false (.s 12)⟩,
 ⟨some 13,none,.extract 0 (.s 8)⟩,
 ⟨some 14,none,.extract 1 (.s 8)⟩,
 ⟨some 6,none,.mv false (.s 13)⟩,
 ⟨some 7,none,.mv false (.s 14)⟩]) (
 .seq (
 .seq (
 .region [6,16] [] [
 ⟨some 15,none,.mv false (.s 7)⟩,
 ⟨some 16,none,.un .not (.s 15)⟩]) (
 .cond (.s 16) (
 .seq (
 .region [4,5] [] [
 ⟨some 4,none,.mv false (.c (i64 0))⟩,
 ⟨some 5,none,.mv false (.c (i64 11))⟩]) (
 .ret)) (
 .ghost (.keep [6]) .skip))) (
 z2P)))}

def z6p:z2p:=
 {n:=2,wr:=[],res:=[.t 4],body:=
 .seq (
 .region [] [] [
 ⟨some 4,none,.mv false (.c (bo false))⟩]) (
 .seq (
 .region [4] [] [
 ⟨some 5,none,.mv false (.s 0)⟩,
 ⟨some 6,none,.mv false (.s 1)⟩,
 ⟨some 7,none,.bin .andNot (.s 5) (.s 6)⟩,
 ⟨some 8,none,.bin .eql (.s 7) (.c (i64 0))⟩,
 ⟨some 4,none,.mv false (.s 8)⟩]) (
 .ret))}

def z1F:z9a:=
 .seq (
 .region [5,7,9,22,23,24,28,29,48] [.norm [2,7,9]] [
 ⟨some 45,none,.fieldAddr 2 (.s 7)⟩,
 ⟨some 46,none,.load none (some 7) false (.s 45)⟩,
 ⟨some 47,none,.mv false (.s 1)⟩,
 ⟨some 48,none,.bin .eql (.s 46) (.s 47)⟩]) (
 .cond (.s 48) (
 .region [5,7,22,23,24,28,29] [.norm [2,7,9]] [
 ⟨some 49,none,.mv false (.s 5)⟩,
 ⟨some 50,none,.fieldAddr 2 (.s 9)⟩,
 ⟨some 51,none,.load none (some 9) false (.s 50)⟩,
 ⟨some 52,none,.bin .or (.s 49) (.s 51)⟩,
 ⟨some 5,none,.mv false (.s 52)⟩]) (
 .ghost (.keep [5,7,22,23,24,28,29]) .skip))
def z0F:z9a:=
 .seq (
 .seq (
 .region [5,7,9,22,23,24,28,29,40] [.norm [2,7,9]] [
 ⟨some 37,none,.fieldAddr 1 (.s 7)⟩,
 ⟨some 38,none,.load none (some 7) false (.s 37)⟩,
 ⟨some 39,none,.mv false (.s 1)⟩,
 ⟨some 40,none,.bin .eql (.s 38) (.s 39)⟩]) (
 .cond (.s 40) (
 .region [5,7,9,22,23,24,28,29] [.norm [2,7,9]] [
 ⟨some 41,none,.mv false (.s 5)⟩,
 ⟨some 42,none,.fieldAddr 1 (.s 9)⟩,
 ⟨some 43,none,.load none (some 9) false (.s 42)⟩,
 ⟨some 44,none,.bin .or (.s 41) (.s 43)⟩,
 ⟨some 5,none,.mv false (.s 44)⟩]) (
 .ghost (.keep [5,7,9,22,23,24,28,29]) .skip))) (
 z1F)
def z8P:z9a:=
 .seq (
 .block 3 (
 .seq (
 .region [5,7,9,22,23,24,28,29] [.norm [2,7,9]] [
 ⟨some 31,none,.idxA (some 3) 3 5 (.s 28) (.s 29)⟩,
 ⟨some 9,none,.alloc 9 [i64 0,i64 0,i64 0]⟩,
 ⟨none,none,.store (some 3) 9 false (.s 9) (.s 31)⟩]) (
 .seq (
 .seq (
 .region [5,7,9,22,23,24,28,29,36] [.norm [2,7,9]] [
 ⟨some 32,none,.fieldAddr 0 (.s 9)⟩,
 ⟨some 33,none,.load none (some 9) false (.s 32)⟩,
 ⟨some 34,none,.fieldAddr 0 (.s 7)⟩,
 ⟨some 35,none,.load none (some 7) false (.s 34)⟩,
 ⟨some 36,none,.bin .neq (.s 33) (.s 35)⟩]) (
 .cond (.s 36) (
 .ghost (.keep [5,7,22,23,24,28,29]) (.exit 3)) (
 .ghost (.keep [5,7,9,22,23,24,28,29]) .skip))) (
 z0F)))) (
 .region [5,7,22,23,24,28,29] [.drop [9]] [
 ⟨some 53,none,.bin .add (.s 29) (.c (i64 1))⟩,
 ⟨some 29,none,.mv false (.s 53)⟩])
def z3F:z9a:=
 .seq (
 .region [5,7,22,23,24,28,29,30] [] [
 ⟨some 30,none,.bin .lss (.s 29) (.c (i64 5))⟩]) (
 .seq (
 .cond (.s 30) (
 .ghost (.keep [5,7,22,23,24,28,29]) .skip) (
 .ghost (.keep [5,22,23,24]) (.exit 2))) (
 z8P))
def z60:z9a:=
 .seq (
 .block 1 (
 .seq (
 .region [5,7,22,23,24] [.norm [2,7]] [
 ⟨some 26,none,.idxSl 3 (.s 22) (.s 24)⟩,
 ⟨some 27,none,.load (some 3) none false (.s 26)⟩,
 ⟨some 7,none,.alloc 7 [i64 0,i64 0,i64 0]⟩,
 ⟨none,none,.store (some 3) 7 false (.s 7) (.s 27)⟩]) (
 .seq (
 .region [5,7,22,23,24,28,29] [.norm [2,7]] [
 ⟨some 28,none,.load (some 15) none false (.g 5)⟩,
 ⟨some 29,none,.mv false (.c (i64 0))⟩]) (
 .block 2 (
 .loop z3F))))) (
 .region [5,22,23,24] [.drop [7,9]] [
 ⟨some 54,none,.bin .add (.s 24) (.c (i64 1))⟩,
 ⟨some 24,none,.mv false (.s 54)⟩])
def z6P:z9a:=
 .seq (
 .region [5,22,23,24,25] [] [
 ⟨some 25,none,.bin .lss (.s 24) (.s 23)⟩]) (
 .seq (
 .cond (.s 25) (
 .ghost (.keep [5,22,23,24]) .skip) (
 .ghost (.keep [5]) (.exit 0))) (
 z60))
def z51:z9a:=
 .seq (
 .region [4] [] [
 ⟨some 55,none,.mv false (.s 5)⟩,
 ⟨some 4,none,.mv false (.s 55)⟩]) (
 .ret)
def z31:z9a:=
 .seq (
 .region [2,5] [.norm [2]] [
 ⟨some 14,none,.fieldAddr 1 (.s 2)⟩,
 ⟨some 15,none,.load none (some 2) false (.s 14)⟩,
 ⟨some 16,none,.mv false (.s 1)⟩,
 ⟨some 17,none,.idxSl 3 (.s 15) (.s 16)⟩,
 ⟨some 18,none,.fieldAddr 1 (.s 17)⟩,
 ⟨some 19,none,.load none none false (.s 18)⟩,
 ⟨some 20,none,.bin .and (.s 19) (.c (i64 60))⟩,
 ⟨some 5,none,.mv false (.s 20)⟩]) (
 .seq (
 .seq (
 .region [5,22,23,24] [.norm [2]] [
 ⟨some 21,none,.fieldAddr 2 (.s 2)⟩,
 ⟨some 22,none,.load none (some 2) false (.s 21)⟩,
 ⟨some 23,none,.len false (.s 22)⟩,
 ⟨some 24,none,.mv false (.c (i64 0))⟩]) (
 .block 0 (
 .loop z6P))) (
 z51))
def z6s:z2p:=
 {n:=2,wr:=[],res:=[.t 4],body:=
 .seq (
 .region [2] [.norm [2]] [
 ⟨some 2,none,.box 2 (some 4) false (.s 0)⟩,
 ⟨some 4,none,.mv false (.c (i64 0))⟩]) (
 .seq (
 .seq (
 .region [2,13] [.norm [2]] [
 ⟨some 10,none,.load (some 4) (some 2) false (.s 2)⟩,
 ⟨some 11,none,.mv false (.s 1)⟩,
 ⟨some 12,none,.call 251 [(.s 10),(.s 11)] []⟩,
 ⟨some 13,none,.un .not (.s 12)⟩]) (
 .cond (.s 13) (
 .seq (
 .region [4] [] [
 ⟨some 4,none,.mv false (.c (i64 0))⟩]) (
 .ret)) (
 .ghost (.keep [2]) .skip))) (
 z31))}

def z1j:z2p:=
 {n:=1,wr:=[],res:=[.t 2],body:=
 .seq (
 .region [1] [.norm [1]] [
 ⟨some 1,none,.box 1 (some 9) false (.s 0)⟩,
 ⟨some 2,none,.mv false (.c (bo false))⟩]) (
 .seq (
 .region [2] [.norm [1]] [
 ⟨some 3,none,.fieldAddr 1 (.s 1)⟩,
 ⟨some 4,none,.load none (some 1) false (.s 3)⟩,
 ⟨some 5,none,.call 254 [(.s 4),(.c (i64 0)),(.c (i64 31))] []⟩,
 ⟨some 6,none,.mv false (.s 5)⟩,
 ⟨some 7,(some (6,true)),.fieldAddr 2 (.s 1)⟩,
 ⟨some 8,(some (6,true)),.load none (some 1) false (.s 7)⟩,
 ⟨some 9,(some (6,true)),.len true (.s 8)⟩,
 ⟨some 10,(some (6,true)),.bin .eql (.s 9) (.c (i64 32))⟩,
 ⟨some 11,none,.pick (.s 6) (.s 10) (.c (bo false))⟩,
 ⟨some 12,none,.mv false (.s 11)⟩,
 ⟨some 13,(some (12,true)),.fieldAddr 3 (.s 1)⟩,
 ⟨some 14,(some (12,true)),.load none (some 1) false (.s 13)⟩,
 ⟨some 15,(some (12,true)),.bin .andNot (.s 14) (.c (i64 956))⟩,
 ⟨some 16,(some (12,true)),.bin .eql (.s 15) (.c (i64 0))⟩,
 ⟨some 17,none,.pick (.s 12) (.s 16) (.c (bo false))⟩,
 ⟨some 18,none,.mv false (.s 17)⟩,
 ⟨some 19,(some (18,true)),.fieldAddr 4 (.s 1)⟩,
 ⟨some 20,(some (18,true)),.load none (some 1) false (.s 19)⟩,
 ⟨some 21,(some (18,true)),.fieldAddr 5 (.s 1)⟩,
 ⟨some 22,(some (18,true)),.load none (some 1) false (.s 21)⟩,
 ⟨some 23,(some (18,true)),.call 254 [(.s 20),(.c (i64 0)),(.s 22)] []⟩,
 ⟨some 24,none,.pick (.s 18) (.s 23) (.c (bo false))⟩,
 ⟨some 25,none,.mv false (.s 24)⟩,
 ⟨some 26,(some (25,true)),.fieldAddr 5 (.s 1)⟩,
 ⟨some 27,(some (25,true)),.load none (some 1) false (.s 26)⟩,
 ⟨some 28,(some (25,true)),.call 254 [(.s 27),(.c (i64 0)),(.c (i64 1099511627776))] []⟩,
 ⟨some 29,none,.pick (.s 25) (.s 28) (.c (bo false))⟩,
 ⟨some 30,none,.mv false (.s 29)⟩,
 ⟨some 31,(some (30,true)),.fieldAddr 6 (.s 1)⟩,
 ⟨some 32,(some (30,true)),.load none (some 1) false (.s 31)⟩,
 ⟨some 33,(some (30,true)),.call 254 [(.s 32),(.c (i64 1)),(.c (i64 2147483647))] []⟩,
 ⟨some 34,none,.pick (.s 30) (.s 33) (.c (bo false))⟩,
 ⟨some 35,none,.mv false (.s 34)⟩,
 ⟨some 36,(some (35,true)),.fieldAddr 7 (.s 1)⟩,
 ⟨some 37,(some (35,true)),.load none (some 1) false (.s 36)⟩,
 ⟨some 38,(some (35,true)),.call 254 [(.s 37),(.c (i64 0)),(.c (i64 2147483647))] []⟩,
 ⟨some 39,none,.pick (.s 35) (.s 38) (.c (bo false))⟩,
 ⟨some 2,none,.mv false (.s 39)⟩]) (
 .ret))}

def z3Q:z9a:=
 .seq (
 .region [2] [] [
 ⟨some 5,none,.buildSl 9 0 [] []⟩,
 ⟨some 6,none,.mv false (.s 0)⟩,
 ⟨some 7,none,.append 9 80 false none none 5 (.s 6)⟩,
 ⟨some 2,none,.mv true (.s 7)⟩]) (
 .ret)
def z1m:z2p:=
 {n:=1,wr:=[],res:=[.t 2],body:=
 .seq (
 .region [] [] [
 ⟨some 2,none,.mv true (.c (.sl (.own 9) none 0 []))⟩]) (
 .seq (
 .seq (
 .region [4] [] [
 ⟨some 3,none,.mv false (.s 0)⟩,
 ⟨some 4,none,.eqnil false (.s 3) (.c (.lit (.slice none 0 0)))⟩]) (
 .cond (.s 4) (
 .seq (
 .region [2] [] [
 ⟨some 2,none,.mv true (.c (.sl (.own 9) none 0 []))⟩]) (
 .ret)) (
 .ghost (.keep []) .skip))) (
 z3Q))}

def z1p:z2p:=
 {n:=1,wr:=[],res:=[.t 2],body:=
 .seq (
 .region [] [] [
 ⟨some 2,none,.mv true (.c (.sl (.own 9) none 0 []))⟩]) (
 .seq (
 .region [2] [] [
 ⟨some 3,none,.mv false (.s 0)⟩,
 ⟨some 4,none,.mv false (.s 0)⟩,
 ⟨some 5,none,.len false (.s 4)⟩,
 ⟨some 6,none,.mv false (.s 0)⟩,
 ⟨some 7,none,.len false (.s 6)⟩,
 ⟨some 8,none,.slSl 9 (.s 3) none (some (.s 5)) (some (.s 7))⟩,
 ⟨some 2,none,.mv true (.s 8)⟩]) (
 .ret))}

def z3C:z9a:=
 .region [3] [] [
 ⟨some 4,none,.load none none false (.s 1)⟩,
 ⟨some 5,none,.len false (.s 4)⟩,
 ⟨some 6,none,.bin .sub (.s 5) (.c (i64 1))⟩,
 ⟨some 3,none,.mv false (.s 6)⟩]
def z3u:z9a:=
 .seq (
 .region [3,8] [] [
 ⟨some 7,none,.mv false (.s 3)⟩,
 ⟨some 8,none,.bin .geq (.s 7) (.c (i64 0))⟩]) (
 .cond (.s 8) (
 .ghost (.keep [3]) .skip) (
 .ghost (.keep []) (.exit 0)))
def z7C:z9a:=
 .cond (.s 18) (
 .ret) (
 .ghost (.keep [3]) .skip)
def z7B:z8G:=
 .plain z7C
def z6C:z8G:=
 .seq (
 .block 1 (
 .seq (
 .yield [3,18] [] [
 ⟨some 11,none,.mv false (.s 0)⟩,
 ⟨some 12,none,.mv false (.s 3)⟩,
 ⟨some 13,none,.load none none false (.s 1)⟩,
 ⟨some 14,none,.mv false (.s 3)⟩,
 ⟨some 15,none,.idxSl 9 (.s 13) (.s 14)⟩,
 ⟨some 16,none,.load (some 9) none false (.s 15)⟩] (some 17) 11 [(.s 12),(.s 16)] [
 ⟨some 18,none,.un .not (.s 17)⟩]) (
 z7B))) (
 .plain (
 .region [3] [] [
 ⟨some 9,none,.mv false (.s 3)⟩,
 ⟨some 10,none,.bin .sub (.s 9) (.c (i64 1))⟩,
 ⟨some 3,none,.mv false (.s 10)⟩]))
def z4u:z8G:=
 .seq (
 .plain z3u) (
 z6C)
def z4C:z8G:=
 .block 0 (
 .loop (
 z4u))
def z4k:z5Bc:=
 {nx:=0,ny:=1,body:=
 .seq (
 .plain z3C) (
 z4C)}

def z7I:z9a:=
 .region [1,2,5] [] [
 ⟨some 5,none,.mv false (.s 7)⟩]
def z6F:z9a:=
 .block 1 (
 .region [1,2] [.norm [2]] [
 ⟨some 8,none,.load none (some 2) true (.s 2)⟩,
 ⟨some 9,none,.mv false (.s 5)⟩,
 ⟨some 10,none,.buildSl 1 1 [i64 0] [(0,1,(.s 9))]⟩,
 ⟨some 11,none,.append 1 8 false none none 8 (.s 10)⟩,
 ⟨none,none,.store none 2 true (.s 2) (.s 11)⟩])
def z4I:z9a:=
 .seq (
 .region [1,4] [.norm [2,10]] [
 ⟨some 12,none,.load none (some 2) false (.s 2)⟩,
 ⟨some 4,none,.mv true (.s 12)⟩]) (
 .ret)
def z5j:z2p:=
 {n:=2,wr:=[],res:=[.t 4],body:=
 .seq (
 .region [1,2] [.norm [2,10],.reB 2 0 (some 1),.norm [2,10]] [
 ⟨some 2,none,.box 2 none true (.s 0)⟩,
 ⟨some 4,none,.mv true (.c (.sl (.own 1) none 0 []))⟩]) (
 .seq (
 .seq (
 .region [1,2,6] [] [
 ⟨some 6,none,.mv false (.s 1)⟩]) (
 .block 0 (
 .range 250 (.s 6) [1,2] [7] (
 z7I) (
 z6F)))) (
 z4I))}

def z6u:z9a:=
 .cond (.s 10) (
 .ghost (.keep [1]) .skip) (
 .ghost (.keep []) (.exit 0))
def z9u:z8G:=
 .plain z6u
def z7u:z9a:=
 .block 1 (
 .region [1,4] [.norm [1]] [
 ⟨some 12,none,.load (some 2) none false (.s 2)⟩,
 ⟨some 13,none,.load none (some 1) false (.s 1)⟩,
 ⟨some 14,none,.call 233 [(.s 12),(.s 13)] []⟩,
 ⟨some 11,none,.mv false (.s 14)⟩,
 ⟨some 15,none,.extract 0 (.s 11)⟩,
 ⟨some 16,none,.extract 1 (.s 11)⟩,
 ⟨none,none,.store none 1 false (.s 1) (.s 15)⟩,
 ⟨some 4,none,.mv false (.s 16)⟩])
def z8u:z8G:=
 .plain z7u
def z0B:z8G:=
 .seq (
 .seq (
 .yield [1,10] [.norm [1]] [
 ⟨some 5,none,.mv false (.s 4)⟩,
 ⟨some 6,none,.mv false (.s 5)⟩,
 ⟨some 7,(some (6,true)),.mv false (.s 0)⟩,
 ⟨some 8,(some (6,true)),.load none (some 1) false (.s 1)⟩] (some 9) 7 [(.s 8)] [
 ⟨some 10,none,.pick (.s 6) (.s 9) (.c (bo false))⟩] (some (6,true))) (
 z9u)) (
 z8u)
def z8N:z8G:=
 .block 0 (
 .loop (
 z0B))
def z1o:z5Bc:=
 {nx:=0,ny:=2,body:=
 .seq (
 .plain (
 .region [1,4] [] [
 ⟨some 4,none,.mv false (.c (bo true))⟩])) (
 z8N)}

def z5m:z2p:=
 {n:=2,wr:=[],res:=[.t 4],body:=
 .seq (
 .region [2] [.norm [2]] [
 ⟨some 2,none,.box 2 (some 4) false (.s 0)⟩,
 ⟨some 4,none,.mv false (.c (bo false))⟩]) (
 .seq (
 .region [4] [.norm [2]] [
 ⟨some 5,none,.mv false (.s 1)⟩,
 ⟨some 6,none,.bin .geq (.s 5) (.c (i64 0))⟩,
 ⟨some 7,none,.mv false (.s 6)⟩,
 ⟨some 8,(some (7,true)),.mv false (.s 1)⟩,
 ⟨some 9,(some (7,true)),.fieldAddr 1 (.s 2)⟩,
 ⟨some 10,(some (7,true)),.load none (some 2) false (.s 9)⟩,
 ⟨some 11,(some (7,true)),.len false (.s 10)⟩,
 ⟨some 12,(some (7,true)),.bin .lss (.s 8) (.s 11)⟩,
 ⟨some 13,none,.pick (.s 7) (.s 12) (.c (bo false))⟩,
 ⟨some 4,none,.mv false (.s 13)⟩]) (
 .ret))}

def z6h:z9a:=
 .block 1 (
 .seq (
 .region [8,9,10,11] [] [
 ⟨some 18,none,.mv false (.s 9)⟩,
 ⟨some 19,none,.mv false (.s 10)⟩,
 ⟨some 20,none,.bin .add (.s 18) (.s 19)⟩,
 ⟨some 21,none,.toInt .u64 (.s 20)⟩,
 ⟨some 22,none,.bin .shr (.s 21) (.c (u64 1))⟩,
 ⟨some 23,none,.toInt .i64 (.s 22)⟩,
 ⟨some 11,none,.mv false (.s 23)⟩]) (
 .seq (
 .region [8,9,10,11,31] [] [
 ⟨some 24,none,.mv false (.s 2)⟩,
 ⟨some 25,none,.mv false (.s 0)⟩,
 ⟨some 26,none,.mv false (.s 11)⟩,
 ⟨some 27,none,.idxSl 9 (.s 25) (.s 26)⟩,
 ⟨some 28,none,.load (some 9) none false (.s 27)⟩,
 ⟨some 29,none,.mv false (.s 1)⟩,
 ⟨some 30,none,.callv 253 (.s 24) [(.s 28),(.s 29)] []⟩,
 ⟨some 31,none,.bin .lss (.s 30) (.c (i64 0))⟩]) (
 .cond (.s 31) (
 .region [8,9,10] [] [
 ⟨some 32,none,.mv false (.s 11)⟩,
 ⟨some 33,none,.bin .add (.s 32) (.c (i64 1))⟩,
 ⟨some 9,none,.mv false (.s 33)⟩]) (
 .region [8,9,10] [] [
 ⟨some 34,none,.mv false (.s 11)⟩,
 ⟨some 10,none,.mv false (.s 34)⟩]))))
def z6c:z9a:=
 .seq (
 .seq (
 .region [8,9,10,17] [] [
 ⟨some 15,none,.mv false (.s 9)⟩,
 ⟨some 16,none,.mv false (.s 10)⟩,
 ⟨some 17,none,.bin .lss (.s 15) (.s 16)⟩]) (
 .cond (.s 17) (
 .ghost (.keep [8,9,10]) .skip) (
 .ghost (.keep [8,9]) (.exit 0)))) (
 z6h)
def z8h:z9a:=
 .seq (
 .region [6,7] [] [
 ⟨some 35,none,.mv false (.s 9)⟩,
 ⟨some 36,none,.mv false (.s 9)⟩,
 ⟨some 37,none,.mv false (.s 8)⟩,
 ⟨some 38,none,.bin .lss (.s 36) (.s 37)⟩,
 ⟨some 39,none,.mv false (.s 38)⟩,
 ⟨some 40,(some (39,true)),.mv false (.s 2)⟩,
 ⟨some 41,(some (39,true)),.mv false (.s 0)⟩,
 ⟨some 42,(some (39,true)),.mv false (.s 9)⟩,
 ⟨some 43,(some (39,true)),.idxSl 9 (.s 41) (.s 42)⟩,
 ⟨some 44,(some (39,true)),.load (some 9) none false (.s 43)⟩,
 ⟨some 45,(some (39,true)),.mv false (.s 1)⟩,
 ⟨some 46,(some (39,true)),.callv 253 (.s 40) [(.s 44),(.s 45)] []⟩,
 ⟨some 47,(some (39,true)),.bin .eql (.s 46) (.c (i64 0))⟩,
 ⟨some 48,none,.pick (.s 39) (.s 47) (.c (bo false))⟩,
 ⟨some 6,none,.mv false (.s 35)⟩,
 ⟨some 7,none,.mv false (.s 48)⟩]) (
 .ret)
def z3b:z2p:=
 {n:=3,wr:=[],res:=[.t 6,.t 7],body:=
 .seq (
 .region [] [] [
 ⟨some 6,none,.mv false (.c (i64 0))⟩,
 ⟨some 7,none,.mv false (.c (bo false))⟩]) (
 .seq (
 .region [8] [] [
 ⟨some 12,none,.mv false (.s 0)⟩,
 ⟨some 13,none,.len false (.s 12)⟩,
 ⟨some 8,none,.mv false (.s 13)⟩]) (
 .seq (
 .region [8,9,10] [] [
 ⟨some 14,none,.mv false (.s 8)⟩,
 ⟨some 9,none,.mv false (.c (i64 0))⟩,
 ⟨some 10,none,.mv false (.s 14)⟩]) (
 .seq (
 .block 0 (
 .loop z6c)) (
 z8h))))}

def z4p:z2p:=
 {n:=2,wr:=[],res:=[.t 4],body:=
 .seq (
 .region [2] [.norm [2]] [
 ⟨some 2,none,.box 2 (some 9) false (.s 0)⟩,
 ⟨some 4,none,.mv false (.c (i64 0))⟩]) (
 .seq (
 .region [4] [.norm [2]] [
 ⟨some 5,none,.fieldAddr 0 (.s 2)⟩,
 ⟨some 6,none,.load none (some 2) false (.s 5)⟩,
 ⟨some 7,none,.mv false (.s 1)⟩,
 ⟨some 8,none,.call 255 [(.s 6),(.s 7)] []⟩,
 ⟨some 4,none,.mv false (.s 8)⟩]) (
 .ret))}

def z0y:z9a:=
 .seq (
 .region [4] [] [
 ⟨some 4,none,.mv false (.c (i64 (-1)))⟩]) (
 .ret)
def z1y:z9a:=
 .seq (
 .region [4] [] [
 ⟨some 4,none,.mv false (.c (i64 0))⟩]) (
 .ret)
def z8x:z9a:=
 .seq (
 .seq (
 .region [19] [] [
 ⟨some 17,none,.mv false (.s 0)⟩,
 ⟨some 18,none,.mv false (.s 1)⟩,
 ⟨some 19,none,.bin .gtr (.s 17) (.s 18)⟩]) (
 .cond (.s 19) (
 .seq (
 .region [4] [] [
 ⟨some 4,none,.mv false (.c (i64 1))⟩]) (
 .ret)) (
 .ghost (.keep []) .skip))) (
 z1y)
def z9x:z9a:=
 .seq (
 .seq (
 .region [16] [] [
 ⟨some 14,none,.mv false (.s 0)⟩,
 ⟨some 15,none,.mv false (.s 1)⟩,
 ⟨some 16,none,.bin .lss (.s 14) (.s 15)⟩]) (
 .cond (.s 16) (
 .seq (
 .region [4] [] [
 ⟨some 4,none,.mv false (.c (i64 (-1)))⟩]) (
 .ret)) (
 .ghost (.keep []) .skip))) (
 z8x)
def z7x:z9a:=
 .seq (
 .seq (
 .region [13] [] [
 ⟨some 13,none,.mv false (.s 6)⟩]) (
 .cond (.s 13) (
 .seq (
 .region [4] [] [
 ⟨some 4,none,.mv false (.c (i64 1))⟩]) (
 .ret)) (
 .ghost (.keep []) .skip))) (
 z9x)
def z3m:z2p:=
 {n:=2,wr:=[],res:=[.t 4],body:=
 .seq (
 .region [] [] [
 ⟨some 4,none,.mv false (.c (i64 0))⟩]) (
 .seq (
 .region [5] [] [
 ⟨some 7,none,.mv false (.s 0)⟩,
 ⟨some 8,none,.call 256 [(.s 7)] []⟩,
 ⟨some 5,none,.mv false (.s 8)⟩]) (
 .seq (
 .region [5,6] [] [
 ⟨some 9,none,.mv false (.s 1)⟩,
 ⟨some 10,none,.call 256 [(.s 9)] []⟩,
 ⟨some 6,none,.mv false (.s 10)⟩]) (
 .seq (
 .seq (
 .region [6,11] [] [
 ⟨some 11,none,.mv false (.s 5)⟩]) (
 .cond (.s 11) (
 .seq (
 .seq (
 .region [12] [] [
 ⟨some 12,none,.mv false (.s 6)⟩]) (
 .cond (.s 12) (
 .seq (
 .region [4] [] [
 ⟨some 4,none,.mv false (.c (i64 0))⟩]) (
 .ret)) (
 .ghost (.keep []) .skip))) (
 z0y)) (
 .ghost (.keep [6]) .skip))) (
 z7x))))}

def z3n:z2p:=
 {n:=3,wr:=[],res:=[.t 6],body:=
 .seq (
 .region [] [] [
 ⟨some 6,none,.mv false (.c (bo false))⟩]) (
 .seq (
 .region [6] [] [
 ⟨some 7,none,.mv false (.s 1)⟩,
 ⟨some 8,none,.mv false (.s 0)⟩,
 ⟨some 9,none,.bin .leq (.s 7) (.s 8)⟩,
 ⟨some 10,none,.mv false (.s 9)⟩,
 ⟨some 11,(some (10,true)),.mv false (.s 0)⟩,
 ⟨some 12,(some (10,true)),.mv false (.s 2)⟩,
 ⟨some 13,(some (10,true)),.bin .leq (.s 11) (.s 12)⟩,
 ⟨some 14,none,.pick (.s 10) (.s 13) (.c (bo false))⟩,
 ⟨some 6,none,.mv false (.s 14)⟩]) (
 .ret))}

def z4w:z2p:=
 {n:=1,wr:=[],res:=[.t 2],body:=
 .seq (
 .region [] [] [
 ⟨some 2,none,.mv false (.c (bo false))⟩]) (
 .seq (
 .region [2] [] [
 ⟨some 3,none,.mv false (.s 0)⟩,
 ⟨some 4,none,.mv false (.s 0)⟩,
 ⟨some 5,none,.bin .neq (.s 3) (.s 4)⟩,
 ⟨some 2,none,.mv false (.s 5)⟩]) (
 .ret))}

end Go.Abs
end

section
namespace Go.Abs
set_option maxRecDepth 100000
def z4F:z9a:=
 .seq (
 .region [10] [.norm [5,6,7,10,12,15,18,19,21]] [
 ⟨some 95,none,.fieldAddr 0 (.s 21)⟩,
 ⟨some 96,none,.load (some 2) (some 21) false (.s 95)⟩,
 ⟨some 97,none,.load (some 1) (some 15) false (.s 15)⟩,
 ⟨some 98,none,.fieldAddr 2 (.s 21)⟩,
 ⟨some 99,none,.load none (some 21) false (.s 98)⟩,
 ⟨some 100,none,.build [i64 0,.sl .plain none 0 [],st [],i64 0,.sl .plain none 0 [],i64 0] [(0,2,(.s 96)),(2,1,(.s 97)),(3,1,(.s 99))]⟩,
 ⟨none,none,.store (some 6) 10 false (.s 10) (.s 100)⟩]) (
 .ret)
def z3p:z9a:=
 .seq (
 .region [6,10,12,15,18] [.norm [5,6,7,10,12,15,18]] [
 ⟨some 62,none,.fieldAddr 1 (.s 12)⟩,
 ⟨some 63,none,.load none (some 12) false (.s 62)⟩,
 ⟨some 64,none,.mv false (.s 14)⟩,
 ⟨some 65,none,.fieldAddr 3 (.s 12)⟩,
 ⟨some 66,none,.load none (some 12) false (.s 65)⟩,
 ⟨some 67,none,.mv false (.s 3)⟩,
 ⟨some 68,none,.mv false (.s 3)⟩,
 ⟨some 69,none,.mv false (.s 16)⟩,
 ⟨some 70,none,.bin .add (.s 68) (.s 69)⟩,
 ⟨some 71,none,.fieldAddr 6 (.s 12)⟩,
 ⟨some 72,none,.load none (some 12) false (.s 71)⟩,
 ⟨some 73,none,.bin .add (.s 72) (.c (i64 1))⟩,
 ⟨some 74,none,.mv false (.s 4)⟩,
 ⟨some 75,none,.build ([i64 0,i64 0]++[st []]++List.replicate 5 (i64 0)++[bo false]) [(1,1,(.s 63)),(2,1,(.s 64)),(3,1,(.s 66)),(4,1,(.s 67)),(5,1,(.s 70)),(6,1,(.s 73)),(7,1,(.s 74))]⟩,
 ⟨some 18,none,.alloc 18 ([i64 0,i64 0]++[st []]++List.replicate 5 (i64 0)++[bo false])⟩,
 ⟨none,none,.store (some 9) 18 false (.s 18) (.s 75)⟩]) (
 .seq (
 .region [6,10,12,15,18] [.norm [5,6,7,10,12,15,18]] [
 ⟨some 76,none,.fieldAddr 3 (.s 12)⟩,
 ⟨some 77,none,.load none (some 12) false (.s 76)⟩,
 ⟨some 78,none,.bin .and (.s 77) (.c (i64 176))⟩,
 ⟨some 79,none,.fieldAddr 3 (.s 12)⟩,
 ⟨none,none,.store none 12 false (.s 79) (.s 78)⟩]) (
 .seq (
 .region [10,15,18,19] [.norm [5,6,7,10,12,15,18,19]] [
 ⟨some 81,none,.load (some 2) (some 6) false (.s 6)⟩,
 ⟨some 82,none,.load (some 9) (some 12) false (.s 12)⟩,
 ⟨some 83,none,.call 259 [(.s 81),(.s 82)] []⟩,
 ⟨some 80,none,.mv false (.s 83)⟩,
 ⟨some 84,none,.extract 0 (.s 80)⟩,
 ⟨some 85,none,.extract 1 (.s 80)⟩,
 ⟨some 19,none,.alloc 19 [i64 0,.sl (.own 9) none 0 []]⟩,
 ⟨none,none,.store (some 2) 19 false (.s 19) (.s 84)⟩,
 ⟨some 20,none,.mv false (.s 85)⟩]) (
 .seq (
 .region [10,15,21] [.norm [5,6,7,10,12,15,18,19,21]] [
 ⟨some 86,none,.load (some 2) (some 19) false (.s 19)⟩,
 ⟨some 87,none,.load (some 9) (some 18) false (.s 18)⟩,
 ⟨some 88,none,.call 260 [(.s 86),(.s 87)] []⟩,
 ⟨some 21,none,.alloc 21 [i64 0,.sl (.own 9) none 0 [],i64 0,i64 0]⟩,
 ⟨none,none,.store (some 4) 21 false (.s 21) (.s 88)⟩]) (
 .seq (
 .seq (
 .region [10,15,21,91] [.norm [5,6,7,10,12,15,18,19,21]] [
 ⟨some 89,none,.fieldAddr 3 (.s 21)⟩,
 ⟨some 90,none,.load none (some 21) false (.s 89)⟩,
 ⟨some 91,none,.bin .neq (.s 90) (.c (i64 0))⟩]) (
 .cond (.s 91) (
 .seq (
 .region [10] [.norm [5,6,7,10,12,15,18,19,21]] [
 ⟨some 92,none,.fieldAddr 3 (.s 21)⟩,
 ⟨some 93,none,.load none (some 21) false (.s 92)⟩,
 ⟨some 94,none,.build [i64 0,.sl .plain none 0 [],st [],i64 0,.sl .plain none 0 [],i64 0] [(5,1,(.s 93))]⟩,
 ⟨none,none,.store (some 6) 10 false (.s 10) (.s 94)⟩]) (
 .ret)) (
 .ghost (.keep [10,15,21]) .skip))) (
 z4F)))))
def z2w:z9a:=
 .seq (
 .region [5,6,7,10,12] [.norm [5,6,7,10,12]] [
 ⟨some 32,none,.load (some 2) (some 6) false (.s 6)⟩,
 ⟨some 33,none,.mv false (.s 4)⟩,
 ⟨some 34,none,.call 258 [(.s 32),(.s 33)] []⟩,
 ⟨some 31,none,.mv false (.s 34)⟩,
 ⟨some 35,none,.extract 0 (.s 31)⟩,
 ⟨some 36,none,.extract 1 (.s 31)⟩,
 ⟨some 12,none,.alloc 12 ([i64 0,i64 0]++[st []]++List.replicate 5 (i64 0)++[bo false])⟩,
 ⟨none,none,.store (some 9) 12 false (.s 12) (.s 35)⟩,
 ⟨some 13,none,.mv false (.s 36)⟩]) (
 .seq (
 .region [5,6,10,12,14,15] [.norm [5,6,7,10,12,15]] [
 ⟨some 38,none,.load (some 1) (some 7) false (.s 7)⟩,
 ⟨some 39,none,.call 81 [(.s 38)] []⟩,
 ⟨some 37,none,.mv false (.s 39)⟩,
 ⟨some 40,none,.extract 0 (.s 37)⟩,
 ⟨some 41,none,.extract 1 (.s 37)⟩,
 ⟨some 15,none,.alloc 15 [st []]⟩,
 ⟨some 14,none,.mv false (.s 40)⟩,
 ⟨none,none,.store (some 1) 15 false (.s 15) (.s 41)⟩]) (
 .seq (
 .region [5,6,10,12,14,15,16] [.norm [5,6,7,10,12,15]] [
 ⟨some 42,none,.fieldAddr 5 (.s 12)⟩,
 ⟨some 43,none,.load none (some 12) false (.s 42)⟩,
 ⟨some 44,none,.fieldAddr 4 (.s 12)⟩,
 ⟨some 45,none,.load none (some 12) false (.s 44)⟩,
 ⟨some 46,none,.bin .sub (.s 43) (.s 45)⟩,
 ⟨some 47,none,.mv false (.s 3)⟩,
 ⟨some 48,none,.bin .sub (.c (i64 1099511627776)) (.s 47)⟩,
 ⟨some 49,none,.min2 (.s 46) (.s 48)⟩,
 ⟨some 16,none,.mv false (.s 49)⟩]) (
 .seq (
 .region [6,10,12,14,15,16,17] [.norm [5,6,7,10,12,15]] [
 ⟨some 50,none,.fieldAddr 1 (.s 5)⟩,
 ⟨some 51,none,.load none (some 5) false (.s 50)⟩,
 ⟨some 52,none,.fieldAddr 1 (.s 12)⟩,
 ⟨some 53,none,.load none (some 12) false (.s 52)⟩,
 ⟨some 54,none,.idxSl 3 (.s 51) (.s 53)⟩,
 ⟨some 55,none,.fieldAddr 2 (.s 54)⟩,
 ⟨some 56,none,.load none none false (.s 55)⟩,
 ⟨some 17,none,.mv false (.s 56)⟩]) (
 .seq (
 .seq (
 .region [6,10,12,14,15,16,17,58] [] [
 ⟨some 57,none,.mv false (.s 17)⟩,
 ⟨some 58,none,.bin .gtr (.s 57) (.c (i64 0))⟩]) (
 .cond (.s 58) (
 .region [6,10,12,14,15,16] [] [
 ⟨some 59,none,.mv false (.s 16)⟩,
 ⟨some 60,none,.mv false (.s 17)⟩,
 ⟨some 61,none,.min2 (.s 59) (.s 60)⟩,
 ⟨some 16,none,.mv false (.s 61)⟩]) (
 .ghost (.keep [6,10,12,14,15,16]) .skip))) (
 z3p)))))
def z3f:z2p:=
 {n:=5,wr:=[],res:=[.cell 10 (some 6) 10],body:=
 .seq (
 .region [5,6,7,10] [.norm [5,6,7,10]] [
 ⟨some 5,none,.box 5 (some 4) false (.s 0)⟩,
 ⟨some 6,none,.box 6 (some 2) false (.s 1)⟩,
 ⟨some 7,none,.box 7 (some 1) false (.s 2)⟩,
 ⟨some 10,none,.alloc 10 ([i64 0]++[.sl (.own 9) none 0 []]++[st []]++[i64 0]++[.sl (.own 1) none 0 []]++[i64 0])⟩]) (
 .seq (
 .region [5,6,7,10,11] [.norm [5,6,7,10]] [
 ⟨some 22,none,.load (some 4) (some 5) false (.s 5)⟩,
 ⟨some 23,none,.load (some 2) (some 6) false (.s 6)⟩,
 ⟨some 24,none,.mv false (.s 3)⟩,
 ⟨some 25,none,.mv false (.s 4)⟩,
 ⟨some 26,none,.call 257 [(.s 22),(.s 23),(.s 24),(.s 25)] []⟩,
 ⟨some 11,none,.mv false (.s 26)⟩]) (
 .seq (
 .seq (
 .region [5,6,7,10,11,28] [] [
 ⟨some 27,none,.mv false (.s 11)⟩,
 ⟨some 28,none,.bin .neq (.s 27) (.c (i64 0))⟩]) (
 .cond (.s 28) (
 .seq (
 .region [10] [.norm [5,6,7,10]] [
 ⟨some 29,none,.mv false (.s 11)⟩,
 ⟨some 30,none,.build [i64 0,.sl .plain none 0 [],st [],i64 0,.sl .plain none 0 [],i64 0] [(5,1,(.s 29))]⟩,
 ⟨none,none,.store (some 6) 10 false (.s 10) (.s 30)⟩]) (
 .ret)) (
 .ghost (.keep [5,6,7,10]) .skip))) (
 z2w)))}

def z1D:z9a:=
 .seq (
 .block 1 (
 .seq (
 .region [2,3,5,37] [.norm [2,3]] [
 ⟨some 27,none,.fieldAddr 1 (.s 2)⟩,
 ⟨some 28,none,.load none (some 2) false (.s 27)⟩,
 ⟨some 29,none,.mv false (.s 5)⟩,
 ⟨some 30,none,.idxSl 9 (.s 28) (.s 29)⟩,
 ⟨some 31,none,.load (some 9) none false (.s 30)⟩,
 ⟨some 32,none,.fieldAddr 1 (.s 3)⟩,
 ⟨some 33,none,.load none (some 3) false (.s 32)⟩,
 ⟨some 34,none,.mv false (.s 5)⟩,
 ⟨some 35,none,.idxSl 9 (.s 33) (.s 34)⟩,
 ⟨some 36,none,.load (some 9) none false (.s 35)⟩,
 ⟨some 37,none,.eqF [.int .i64,.int .i64,.str,.int .i64,.int .i64,.int .i64,.int .i64,.int .i64,.bool] true (.s 31) (.s 36)⟩]) (
 .cond (.s 37) (
 .seq (
 .region [4] [] [
 ⟨some 4,none,.mv false (.c (bo false))⟩]) (
 .ret)) (
 .ghost (.keep [2,3,5]) .skip)))) (
 .region [2,3,5] [] [
 ⟨some 25,none,.mv false (.s 5)⟩,
 ⟨some 26,none,.bin .add (.s 25) (.c (i64 1))⟩,
 ⟨some 5,none,.mv false (.s 26)⟩])
def z0u:z9a:=
 .seq (
 .seq (
 .region [2,3,5,24] [.norm [2,3]] [
 ⟨some 20,none,.mv false (.s 5)⟩,
 ⟨some 21,none,.fieldAddr 1 (.s 2)⟩,
 ⟨some 22,none,.load none (some 2) false (.s 21)⟩,
 ⟨some 23,none,.len false (.s 22)⟩,
 ⟨some 24,none,.bin .lss (.s 20) (.s 23)⟩]) (
 .cond (.s 24) (
 .ghost (.keep [2,3,5]) .skip) (
 .ghost (.keep []) (.exit 0)))) (
 z1D)
def z2C:z9a:=
 .seq (
 .region [4] [] [
 ⟨some 4,none,.mv false (.c (bo true))⟩]) (
 .ret)
def z5C:z9a:=
 .seq (
 .seq (
 .region [2,3,5] [] [
 ⟨some 5,none,.mv false (.c (i64 0))⟩]) (
 .block 0 (
 .loop z0u))) (
 z2C)
def z2i:z2p:=
 {n:=2,wr:=[],res:=[.t 4],body:=
 .seq (
 .region [2,3] [.norm [2,3]] [
 ⟨some 2,none,.box 2 (some 2) false (.s 0)⟩,
 ⟨some 3,none,.box 3 (some 2) false (.s 1)⟩,
 ⟨some 4,none,.mv false (.c (bo false))⟩]) (
 .seq (
 .seq (
 .region [2,3,19] [.norm [2,3]] [
 ⟨some 6,none,.fieldAddr 0 (.s 2)⟩,
 ⟨some 7,none,.load none (some 2) false (.s 6)⟩,
 ⟨some 8,none,.fieldAddr 0 (.s 3)⟩,
 ⟨some 9,none,.load none (some 3) false (.s 8)⟩,
 ⟨some 10,none,.bin .neq (.s 7) (.s 9)⟩,
 ⟨some 11,none,.mv false (.s 10)⟩,
 ⟨some 12,(some (11,false)),.fieldAddr 1 (.s 2)⟩,
 ⟨some 13,(some (11,false)),.load none (some 2) false (.s 12)⟩,
 ⟨some 14,(some (11,false)),.len false (.s 13)⟩,
 ⟨some 15,(some (11,false)),.fieldAddr 1 (.s 3)⟩,
 ⟨some 16,(some (11,false)),.load none (some 3) false (.s 15)⟩,
 ⟨some 17,(some (11,false)),.len false (.s 16)⟩,
 ⟨some 18,(some (11,false)),.bin .neq (.s 14) (.s 17)⟩,
 ⟨some 19,none,.pick (.s 11) (.c (bo true)) (.s 18)⟩]) (
 .cond (.s 19) (
 .seq (
 .region [4] [] [
 ⟨some 4,none,.mv false (.c (bo false))⟩]) (
 .ret)) (
 .ghost (.keep [2,3]) .skip))) (
 z5C))}

def z1u:z9a:=
 .seq (
 .block 1 (
 .seq (
 .region [2,6,8,9] [.norm [2,6]] [
 ⟨some 26,none,.fieldAddr 1 (.s 2)⟩,
 ⟨some 27,none,.load none (some 2) false (.s 26)⟩,
 ⟨some 28,none,.mv false (.s 8)⟩,
 ⟨some 29,none,.idxSl 9 (.s 27) (.s 28)⟩,
 ⟨some 30,none,.load (some 9) none false (.s 29)⟩,
 ⟨some 31,none,.load (some 9) (some 6) false (.s 6)⟩,
 ⟨some 32,none,.call 263 [(.s 30),(.s 31)] []⟩,
 ⟨some 9,none,.mv false (.s 32)⟩]) (
 .seq (
 .region [2,6,8,33] [] [
 ⟨some 33,none,.mv false (.s 9)⟩]) (
 .cond (.s 33) (
 .seq (
 .region [4,5] [.norm [2,6]] [
 ⟨some 34,none,.fieldAddr 1 (.s 2)⟩,
 ⟨some 35,none,.load none (some 2) false (.s 34)⟩,
 ⟨some 36,none,.mv false (.s 8)⟩,
 ⟨some 37,none,.idxSl 9 (.s 35) (.s 36)⟩,
 ⟨some 38,none,.fieldAddr 0 (.s 37)⟩,
 ⟨some 39,none,.load none none false (.s 38)⟩,
 ⟨some 4,none,.mv false (.s 39)⟩,
 ⟨some 5,none,.mv false (.c (bo true))⟩]) (
 .ret)) (
 .ghost (.keep [2,6,8]) .skip))))) (
 .region [2,6,8] [] [
 ⟨some 24,none,.mv false (.s 8)⟩,
 ⟨some 25,none,.bin .sub (.s 24) (.c (i64 1))⟩,
 ⟨some 8,none,.mv false (.s 25)⟩])
def z4o:z9a:=
 .seq (
 .seq (
 .region [2,6,8,23] [] [
 ⟨some 22,none,.mv false (.s 8)⟩,
 ⟨some 23,none,.bin .geq (.s 22) (.c (i64 0))⟩]) (
 .cond (.s 23) (
 .ghost (.keep [2,6,8]) .skip) (
 .ghost (.keep []) (.exit 0)))) (
 z1u)
def z8B:z9a:=
 .seq (
 .region [4,5] [] [
 ⟨some 4,none,.mv false (.c (i64 0))⟩,
 ⟨some 5,none,.mv false (.c (bo false))⟩]) (
 .ret)
def z5u:z9a:=
 .seq (
 .seq (
 .region [2,6,8] [.norm [2,6]] [
 ⟨some 18,none,.fieldAddr 1 (.s 2)⟩,
 ⟨some 19,none,.load none (some 2) false (.s 18)⟩,
 ⟨some 20,none,.len false (.s 19)⟩,
 ⟨some 21,none,.bin .sub (.s 20) (.c (i64 1))⟩,
 ⟨some 8,none,.mv false (.s 21)⟩]) (
 .block 0 (
 .loop z4o))) (
 z8B)
def z5g:z2p:=
 {n:=2,wr:=[],res:=[.t 4,.t 5],body:=
 .seq (
 .region [2] [.norm [2]] [
 ⟨some 2,none,.box 2 (some 2) false (.s 0)⟩,
 ⟨some 4,none,.mv false (.c (i64 0))⟩,
 ⟨some 5,none,.mv false (.c (bo false))⟩]) (
 .seq (
 .region [2,6,7] [.norm [2,6]] [
 ⟨some 11,none,.load (some 2) (some 2) false (.s 2)⟩,
 ⟨some 12,none,.mv false (.s 1)⟩,
 ⟨some 13,none,.call 258 [(.s 11),(.s 12)] []⟩,
 ⟨some 10,none,.mv false (.s 13)⟩,
 ⟨some 14,none,.extract 0 (.s 10)⟩,
 ⟨some 15,none,.extract 1 (.s 10)⟩,
 ⟨some 6,none,.alloc 6 ([i64 0,i64 0]++[st []]++List.replicate 5 (i64 0)++[bo false])⟩,
 ⟨none,none,.store (some 9) 6 false (.s 6) (.s 14)⟩,
 ⟨some 7,none,.mv false (.s 15)⟩]) (
 .seq (
 .seq (
 .region [2,6,17] [] [
 ⟨some 16,none,.mv false (.s 7)⟩,
 ⟨some 17,none,.bin .neq (.s 16) (.c (i64 0))⟩]) (
 .cond (.s 17) (
 .seq (
 .region [4,5] [] [
 ⟨some 4,none,.mv false (.c (i64 0))⟩,
 ⟨some 5,none,.mv false (.c (bo false))⟩]) (
 .ret)) (
 .ghost (.keep [2,6]) .skip))) (
 z5u)))}

def z9C:z9a:=
 .seq (
 .block 1 (
 .seq (
 .region [5,25] [] [
 ⟨some 17,none,.mv false (.s 0)⟩,
 ⟨some 18,none,.mv false (.s 5)⟩,
 ⟨some 19,none,.idxSl 1 (.s 17) (.s 18)⟩,
 ⟨some 20,none,.load none none false (.s 19)⟩,
 ⟨some 21,none,.mv false (.s 1)⟩,
 ⟨some 22,none,.mv false (.s 5)⟩,
 ⟨some 23,none,.idxSl 1 (.s 21) (.s 22)⟩,
 ⟨some 24,none,.load none none false (.s 23)⟩,
 ⟨some 25,none,.bin .neq (.s 20) (.s 24)⟩]) (
 .cond (.s 25) (
 .seq (
 .region [4] [] [
 ⟨some 4,none,.mv false (.c (bo false))⟩]) (
 .ret)) (
 .ghost (.keep [5]) .skip)))) (
 .region [5] [] [
 ⟨some 15,none,.mv false (.s 5)⟩,
 ⟨some 16,none,.bin .add (.s 15) (.c (i64 1))⟩,
 ⟨some 5,none,.mv false (.s 16)⟩])
def z2u:z9a:=
 .seq (
 .seq (
 .region [5,14] [] [
 ⟨some 11,none,.mv false (.s 5)⟩,
 ⟨some 12,none,.mv false (.s 0)⟩,
 ⟨some 13,none,.len false (.s 12)⟩,
 ⟨some 14,none,.bin .lss (.s 11) (.s 13)⟩]) (
 .cond (.s 14) (
 .ghost (.keep [5]) .skip) (
 .ghost (.keep []) (.exit 0)))) (
 z9C)
def z0C:z9a:=
 .seq (
 .region [4] [] [
 ⟨some 4,none,.mv false (.c (bo true))⟩]) (
 .ret)
def z1C:z9a:=
 .seq (
 .seq (
 .region [5] [] [
 ⟨some 5,none,.mv false (.c (i64 0))⟩]) (
 .block 0 (
 .loop z2u))) (
 z0C)
def z0i:z2p:=
 {n:=2,wr:=[],res:=[.t 4],body:=
 .seq (
 .region [] [] [
 ⟨some 4,none,.mv false (.c (bo false))⟩]) (
 .seq (
 .seq (
 .region [10] [] [
 ⟨some 6,none,.mv false (.s 0)⟩,
 ⟨some 7,none,.len false (.s 6)⟩,
 ⟨some 8,none,.mv false (.s 1)⟩,
 ⟨some 9,none,.len false (.s 8)⟩,
 ⟨some 10,none,.bin .neq (.s 7) (.s 9)⟩]) (
 .cond (.s 10) (
 .seq (
 .region [4] [] [
 ⟨some 4,none,.mv false (.c (bo false))⟩]) (
 .ret)) (
 .ghost (.keep []) .skip))) (
 z1C))}

def z6G:z9a:=
 .region [5,10,11,12] [.norm [5,6,7,10,11,13]] [
 ⟨some 40,none,.fieldAddr 0 (.s 13)⟩,
 ⟨some 41,none,.load (some 2) (some 13) false (.s 40)⟩,
 ⟨some 42,none,.fieldAddr 2 (.s 13)⟩,
 ⟨some 43,none,.load (some 1) (some 13) false (.s 42)⟩,
 ⟨some 44,none,.fieldAddr 4 (.s 11)⟩,
 ⟨some 45,none,.load none (some 11) true (.s 44)⟩,
 ⟨some 46,none,.fieldAddr 3 (.s 13)⟩,
 ⟨some 47,none,.load none (some 13) false (.s 46)⟩,
 ⟨some 48,none,.buildSl 1 1 [i64 0] [(0,1,(.s 47))]⟩,
 ⟨some 49,none,.append 1 8 false none none 45 (.s 48)⟩,
 ⟨some 50,none,.buildO [i64 0,.sl .plain none 0 [],st [],i64 0,.sl .plain none 0 [],i64 0] [(0,2,(.s 41)),(2,1,(.s 43))] 4 49⟩,
 ⟨none,none,.storeO 6 11 (.s 11) 50⟩]
def z8v:z9a:=
 .seq (
 .block 1 (
 .seq (
 .region [5,10,11,12,13] [.norm [5,6,7,10,11,13]] [
 ⟨some 23,none,.load (some 4) (some 5) false (.s 5)⟩,
 ⟨some 24,none,.fieldAddr 0 (.s 11)⟩,
 ⟨some 25,none,.load (some 2) (some 11) false (.s 24)⟩,
 ⟨some 26,none,.fieldAddr 2 (.s 11)⟩,
 ⟨some 27,none,.load (some 1) (some 11) false (.s 26)⟩,
 ⟨some 28,none,.mv false (.s 3)⟩,
 ⟨some 29,none,.mv false (.s 4)⟩,
 ⟨some 30,none,.mv false (.s 12)⟩,
 ⟨some 31,none,.idxSl 1 (.s 29) (.s 30)⟩,
 ⟨some 32,none,.load none none false (.s 31)⟩,
 ⟨some 33,none,.call 261 [(.s 23),(.s 25),(.s 27),(.s 28),(.s 32)] []⟩,
 ⟨some 13,none,.alloc 13 ([i64 0]++[.sl (.own 9) none 0 []]++[st []]++[i64 0]++[.sl (.own 1) none 0 []]++[i64 0])⟩,
 ⟨none,none,.store (some 6) 13 false (.s 13) (.s 33)⟩]) (
 .seq (
 .seq (
 .region [5,10,11,12,13,36] [.norm [5,6,7,10,11,13]] [
 ⟨some 34,none,.fieldAddr 5 (.s 13)⟩,
 ⟨some 35,none,.load none (some 13) false (.s 34)⟩,
 ⟨some 36,none,.bin .neq (.s 35) (.c (i64 0))⟩]) (
 .cond (.s 36) (
 .seq (
 .region [10] [.norm [5,6,7,10,11,13]] [
 ⟨some 37,none,.fieldAddr 5 (.s 13)⟩,
 ⟨some 38,none,.load none (some 13) false (.s 37)⟩,
 ⟨some 39,none,.build [i64 0,.sl .plain none 0 [],st [],i64 0,.sl .plain none 0 [],i64 0] [(5,1,(.s 38))]⟩,
 ⟨none,none,.store (some 6) 10 false (.s 10) (.s 39)⟩]) (
 .ret)) (
 .ghost (.keep [5,10,11,12,13]) .skip))) (
 z6G)))) (
 .region [5,10,11,12] [.drop [13]] [
 ⟨some 21,none,.mv false (.s 12)⟩,
 ⟨some 22,none,.bin .add (.s 21) (.c (i64 1))⟩,
 ⟨some 12,none,.mv false (.s 22)⟩])
def z8o:z9a:=
 .seq (
 .seq (
 .region [5,10,11,12,20] [] [
 ⟨some 17,none,.mv false (.s 12)⟩,
 ⟨some 18,none,.mv false (.s 4)⟩,
 ⟨some 19,none,.len false (.s 18)⟩,
 ⟨some 20,none,.bin .lss (.s 17) (.s 19)⟩]) (
 .cond (.s 20) (
 .ghost (.keep [5,10,11,12]) .skip) (
 .ghost (.reB 11 4 none) (.ghost (.norm [5,6,7,10,11]) (.ghost (.keep [10,11]) (.exit 0)))))) (
 z8v)
def z5J:z9a:=
 .seq (
 .region [10] [.norm [5,6,7,10,11,13]] [
 ⟨some 51,none,.load (some 6) (some 11) false (.s 11)⟩,
 ⟨none,none,.store (some 6) 10 false (.s 10) (.s 51)⟩]) (
 .ret)
def z7j:z2p:=
 {n:=5,wr:=[],res:=[.cell 10 (some 6) 10],body:=
 .seq (
 .region [5,6,7,10] [.norm [5,6,7,10]] [
 ⟨some 5,none,.box 5 (some 4) false (.s 0)⟩,
 ⟨some 6,none,.box 6 (some 2) false (.s 1)⟩,
 ⟨some 7,none,.box 7 (some 1) false (.s 2)⟩,
 ⟨some 10,none,.alloc 10 ([i64 0]++[.sl (.own 9) none 0 []]++[st []]++[i64 0]++[.sl (.own 1) none 0 []]++[i64 0])⟩]) (
 .seq (
 .region [5,10,11] [.norm [5,6,7,10,11],.reB 11 4 (some 1),.norm [5,6,7,10,11]] [
 ⟨some 14,none,.load (some 2) (some 6) false (.s 6)⟩,
 ⟨some 15,none,.load (some 1) (some 7) false (.s 7)⟩,
 ⟨some 16,none,.build [i64 0,.sl .plain none 0 [],st [],i64 0,.sl .plain (some true) 0 [],i64 0] [(0,2,(.s 14)),(2,1,(.s 15))]⟩,
 ⟨some 11,none,.alloc 11 ([i64 0]++[.sl (.own 9) none 0 []]++[st []]++[i64 0]++[.sl (.own 1) none 0 []]++[i64 0])⟩,
 ⟨none,none,.store (some 6) 11 false (.s 11) (.s 16)⟩]) (
 .seq (
 .seq (
 .region [5,10,11,12] [] [
 ⟨some 12,none,.mv false (.c (i64 0))⟩]) (
 .block 0 (
 .loop z8o))) (
 z5J)))}

def z3i:z9a:=
 .seq (
 .block 1 (
 .seq (
 .region [4,5,9,10,11] [.norm [4,5,11]] [
 ⟨some 37,none,.fieldAddr 1 (.s 5)⟩,
 ⟨some 38,none,.load none (some 5) false (.s 37)⟩,
 ⟨some 39,none,.mv false (.s 10)⟩,
 ⟨some 40,none,.idxSl 9 (.s 38) (.s 39)⟩,
 ⟨some 41,none,.load (some 9) none false (.s 40)⟩,
 ⟨some 11,none,.alloc 11 ([i64 0,i64 0]++[st []]++List.replicate 5 (i64 0)++[bo false])⟩,
 ⟨none,none,.store (some 9) 11 false (.s 11) (.s 41)⟩]) (
 .seq (
 .region [4,5,9,10,11,13] [.norm [4,5,11]] [
 ⟨some 43,none,.load (some 2) (some 5) false (.s 5)⟩,
 ⟨some 44,none,.fieldAddr 0 (.s 11)⟩,
 ⟨some 45,none,.load none (some 11) false (.s 44)⟩,
 ⟨some 46,none,.call 264 [(.s 43),(.s 45)] []⟩,
 ⟨some 42,none,.mv false (.s 46)⟩,
 ⟨some 47,none,.extract 0 (.s 42)⟩,
 ⟨some 48,none,.extract 1 (.s 42)⟩,
 ⟨some 12,none,.mv false (.s 47)⟩,
 ⟨some 13,none,.mv false (.s 48)⟩]) (
 .seq (
 .region [4,5,9,10,11,13,14] [.norm [4,5,11]] [
 ⟨some 49,none,.load (some 9) (some 11) false (.s 11)⟩,
 ⟨some 50,none,.mv false (.s 2)⟩,
 ⟨some 51,none,.call 269 [(.s 49),(.s 50)] []⟩,
 ⟨some 14,none,.mv false (.s 51)⟩]) (
 .seq (
 .region [4,5,9,10,11,13,14,15] [.norm [4,5,11]] [
 ⟨some 52,none,.load (some 4) (some 4) false (.s 4)⟩,
 ⟨some 53,none,.fieldAddr 1 (.s 11)⟩,
 ⟨some 54,none,.load none (some 11) false (.s 53)⟩,
 ⟨some 55,none,.call 270 [(.s 52),(.s 54),(.c (i64 1))] []⟩,
 ⟨some 15,none,.mv false (.s 55)⟩]) (
 .seq (
 .region [4,5,9,10,11,71] [.norm [4,5,11]] [
 ⟨some 56,none,.mv false (.s 14)⟩,
 ⟨some 57,none,.mv false (.s 56)⟩,
 ⟨some 58,(some (57,true)),.mv false (.s 13)⟩,
 ⟨some 59,(some (57,true)),.un .not (.s 58)⟩,
 ⟨some 60,none,.pick (.s 57) (.s 59) (.c (bo false))⟩,
 ⟨some 61,none,.mv false (.s 60)⟩,
 ⟨some 62,(some (61,true)),.mv false (.s 15)⟩,
 ⟨some 63,none,.pick (.s 61) (.s 62) (.c (bo false))⟩,
 ⟨some 64,none,.mv false (.s 63)⟩,
 ⟨some 65,(some (64,true)),.fieldAddr 5 (.s 11)⟩,
 ⟨some 66,(some (64,true)),.load none (some 11) false (.s 65)⟩,
 ⟨some 67,(some (64,true)),.mv false (.s 2)⟩,
 ⟨some 68,(some (64,true)),.mv false (.s 3)⟩,
 ⟨some 69,(some (64,true)),.bin .add (.s 67) (.s 68)⟩,
 ⟨some 70,(some (64,true)),.bin .leq (.s 66) (.s 69)⟩,
 ⟨some 71,none,.pick (.s 64) (.s 70) (.c (bo false))⟩]) (
 .cond (.s 71) (
 .region [4,5,9,10] [.norm [4,5,11]] [
 ⟨some 72,none,.mv true (.s 9)⟩,
 ⟨some 73,none,.fieldAddr 0 (.s 11)⟩,
 ⟨some 74,none,.load none (some 11) false (.s 73)⟩,
 ⟨some 75,none,.buildSl 1 1 [i64 0] [(0,1,(.s 74))]⟩,
 ⟨some 76,none,.append 1 8 false none none 72 (.s 75)⟩,
 ⟨some 9,none,.mv true (.s 76)⟩]) (
 .ghost (.keep [4,5,9,10]) .skip)))))))) (
 .region [4,5,9,10] [.drop [11]] [
 ⟨some 35,none,.mv false (.s 10)⟩,
 ⟨some 36,none,.bin .add (.s 35) (.c (i64 1))⟩,
 ⟨some 10,none,.mv false (.s 36)⟩])
def z8f:z9a:=
 .seq (
 .seq (
 .region [4,5,9,10,34] [.norm [4,5]] [
 ⟨some 30,none,.mv false (.s 10)⟩,
 ⟨some 31,none,.fieldAddr 1 (.s 5)⟩,
 ⟨some 32,none,.load none (some 5) false (.s 31)⟩,
 ⟨some 33,none,.len false (.s 32)⟩,
 ⟨some 34,none,.bin .lss (.s 30) (.s 33)⟩]) (
 .cond (.s 34) (
 .ghost (.keep [4,5,9,10]) .skip) (
 .ghost (.keep [9]) (.exit 0)))) (
 z3i)
def z9I:z9a:=
 .seq (
 .region [8] [] [
 ⟨some 77,none,.mv true (.s 9)⟩,
 ⟨some 8,none,.mv true (.s 77)⟩]) (
 .ret)
def z6H:z9a:=
 .seq (
 .region [4,5,9] [] [
 ⟨some 9,none,.mv true (.c (.sl (.own 1) none 0 []))⟩]) (
 .seq (
 .seq (
 .region [4,5,9,10] [] [
 ⟨some 10,none,.mv false (.c (i64 0))⟩]) (
 .block 0 (
 .loop z8f))) (
 z9I))
def z6d:z2p:=
 {n:=4,wr:=[],res:=[.t 8],body:=
 .seq (
 .region [4,5] [.norm [4,5]] [
 ⟨some 4,none,.box 4 (some 4) false (.s 0)⟩,
 ⟨some 5,none,.box 5 (some 2) false (.s 1)⟩,
 ⟨some 8,none,.mv true (.c (.sl (.own 1) none 0 []))⟩]) (
 .seq (
 .seq (
 .region [4,5,29] [] [
 ⟨some 16,none,.mv false (.s 2)⟩,
 ⟨some 17,none,.bin .lss (.s 16) (.c (i64 0))⟩,
 ⟨some 18,none,.mv false (.s 17)⟩,
 ⟨some 19,(some (18,false)),.mv false (.s 2)⟩,
 ⟨some 20,(some (18,false)),.bin .gtr (.s 19) (.c (i64 1099511627776))⟩,
 ⟨some 21,none,.pick (.s 18) (.c (bo true)) (.s 20)⟩,
 ⟨some 22,none,.mv false (.s 21)⟩,
 ⟨some 23,(some (22,false)),.mv false (.s 3)⟩,
 ⟨some 24,(some (22,false)),.bin .lss (.s 23) (.c (i64 0))⟩,
 ⟨some 25,none,.pick (.s 22) (.c (bo true)) (.s 24)⟩,
 ⟨some 26,none,.mv false (.s 25)⟩,
 ⟨some 27,(some (26,false)),.mv false (.s 3)⟩,
 ⟨some 28,(some (26,false)),.bin .gtr (.s 27) (.c (i64 1099511627776))⟩,
 ⟨some 29,none,.pick (.s 26) (.c (bo true)) (.s 28)⟩]) (
 .cond (.s 29) (
 .seq (
 .region [8] [] [
 ⟨some 8,none,.mv true (.c (.sl (.own 1) none 0 []))⟩]) (
 .ret)) (
 .ghost (.keep [4,5]) .skip))) (
 z6H))}

def z8e:z9a:=
 .seq (
 .block 1 (
 .seq (
 .region [1,3,4,5] [.norm [1,5]] [
 ⟨some 24,none,.fieldAddr 1 (.s 1)⟩,
 ⟨some 25,none,.load none (some 1) false (.s 24)⟩,
 ⟨some 26,none,.mv false (.s 4)⟩,
 ⟨some 27,none,.idxSl 9 (.s 25) (.s 26)⟩,
 ⟨some 28,none,.load (some 9) none false (.s 27)⟩,
 ⟨some 5,none,.alloc 5 ([i64 0,i64 0]++[st []]++List.replicate 5 (i64 0)++[bo false])⟩,
 ⟨none,none,.store (some 9) 5 false (.s 5) (.s 28)⟩]) (
 .seq (
 .region [1,3,4,5,6] [.norm [1,5]] [
 ⟨some 29,none,.load (some 9) (some 5) false (.s 5)⟩,
 ⟨some 30,none,.call 273 [(.s 29)] []⟩,
 ⟨some 6,none,.mv false (.s 30)⟩]) (
 .seq (
 .seq (
 .region [1,4,5,52] [.norm [1,5]] [
 ⟨some 31,none,.mv false (.s 6)⟩,
 ⟨some 32,none,.un .not (.s 31)⟩,
 ⟨some 33,none,.mv false (.s 32)⟩,
 ⟨some 34,(some (33,false)),.fieldAddr 0 (.s 5)⟩,
 ⟨some 35,(some (33,false)),.load none (some 5) false (.s 34)⟩,
 ⟨some 36,(some (33,false)),.mv false (.s 3)⟩,
 ⟨some 37,(some (33,false)),.bin .leq (.s 35) (.s 36)⟩,
 ⟨some 38,none,.pick (.s 33) (.c (bo true)) (.s 37)⟩,
 ⟨some 39,none,.mv false (.s 38)⟩,
 ⟨some 40,(some (39,false)),.fieldAddr 0 (.s 5)⟩,
 ⟨some 41,(some (39,false)),.load none (some 5) false (.s 40)⟩,
 ⟨some 42,(some (39,false)),.fieldAddr 0 (.s 1)⟩,
 ⟨some 43,(some (39,false)),.load none (some 1) false (.s 42)⟩,
 ⟨some 44,(some (39,false)),.bin .geq (.s 41) (.s 43)⟩,
 ⟨some 45,none,.pick (.s 39) (.c (bo true)) (.s 44)⟩,
 ⟨some 46,none,.mv false (.s 45)⟩,
 ⟨some 47,(some (46,false)),.fieldAddr 7 (.s 5)⟩,
 ⟨some 48,(some (46,false)),.load none (some 5) false (.s 47)⟩,
 ⟨some 49,(some (46,false)),.fieldAddr 0 (.s 1)⟩,
 ⟨some 50,(some (46,false)),.load none (some 1) false (.s 49)⟩,
 ⟨some 51,(some (46,false)),.bin .geq (.s 48) (.s 50)⟩,
 ⟨some 52,none,.pick (.s 46) (.c (bo true)) (.s 51)⟩]) (
 .cond (.s 52) (
 .seq (
 .region [2] [] [
 ⟨some 2,none,.mv false (.c (bo false))⟩]) (
 .ret)) (
 .ghost (.keep [1,4,5]) .skip))) (
 .region [1,3,4] [.norm [1,5]] [
 ⟨some 53,none,.fieldAddr 0 (.s 5)⟩,
 ⟨some 54,none,.load none (some 5) false (.s 53)⟩,
 ⟨some 3,none,.mv false (.s 54)⟩]))))) (
 .region [1,3,4] [.drop [5]] [
 ⟨some 22,none,.mv false (.s 4)⟩,
 ⟨some 23,none,.bin .add (.s 22) (.c (i64 1))⟩,
 ⟨some 4,none,.mv false (.s 23)⟩])
def z3d:z9a:=
 .seq (
 .seq (
 .region [1,3,4,21] [.norm [1]] [
 ⟨some 17,none,.mv false (.s 4)⟩,
 ⟨some 18,none,.fieldAddr 1 (.s 1)⟩,
 ⟨some 19,none,.load none (some 1) false (.s 18)⟩,
 ⟨some 20,none,.len false (.s 19)⟩,
 ⟨some 21,none,.bin .lss (.s 17) (.s 20)⟩]) (
 .cond (.s 21) (
 .ghost (.keep [1,3,4]) .skip) (
 .ghost (.keep []) (.exit 0)))) (
 z8e)
def z0v:z9a:=
 .seq (
 .region [2] [] [
 ⟨some 2,none,.mv false (.c (bo true))⟩]) (
 .ret)
def z2v:z9a:=
 .seq (
 .region [1,3] [] [
 ⟨some 3,none,.mv false (.c (i64 0))⟩]) (
 .seq (
 .seq (
 .region [1,3,4] [] [
 ⟨some 4,none,.mv false (.c (i64 0))⟩]) (
 .block 0 (
 .loop z3d))) (
 z0v))
def z4c:z2p:=
 {n:=1,wr:=[],res:=[.t 2],body:=
 .seq (
 .region [1] [.norm [1]] [
 ⟨some 1,none,.box 1 (some 2) false (.s 0)⟩,
 ⟨some 2,none,.mv false (.c (bo false))⟩]) (
 .seq (
 .seq (
 .region [1,16] [.norm [1]] [
 ⟨some 7,none,.fieldAddr 1 (.s 1)⟩,
 ⟨some 8,none,.load none (some 1) false (.s 7)⟩,
 ⟨some 9,none,.len false (.s 8)⟩,
 ⟨some 10,none,.bin .gtr (.s 9) (.c (i64 4096))⟩,
 ⟨some 11,none,.mv false (.s 10)⟩,
 ⟨some 12,(some (11,false)),.fieldAddr 0 (.s 1)⟩,
 ⟨some 13,(some (11,false)),.load none (some 1) false (.s 12)⟩,
 ⟨some 14,(some (11,false)),.call 272 [(.s 13),(.c (i64 1)),(.c (i64 2147483647))] []⟩,
 ⟨some 15,(some (11,false)),.un .not (.s 14)⟩,
 ⟨some 16,none,.pick (.s 11) (.c (bo true)) (.s 15)⟩]) (
 .cond (.s 16) (
 .seq (
 .region [2] [] [
 ⟨some 2,none,.mv false (.c (bo false))⟩]) (
 .ret)) (
 .ghost (.keep [1]) .skip))) (
 z2v))}

def z6f:z2p:=
 {n:=2,wr:=[],res:=[.t 4],body:=
 .seq (
 .region [] [] [
 ⟨some 4,none,.mv false (.c (bo false))⟩]) (
 .seq (
 .region [4] [] [
 ⟨some 5,none,.mv false (.s 0)⟩,
 ⟨some 6,none,.mv false (.s 1)⟩,
 ⟨some 7,none,.bin .and (.s 5) (.s 6)⟩,
 ⟨some 8,none,.mv false (.s 0)⟩,
 ⟨some 9,none,.bin .eql (.s 7) (.s 8)⟩,
 ⟨some 4,none,.mv false (.s 9)⟩]) (
 .ret))}

def z8j:z9a:=
 .seq (
 .region [2,5,6,71] [.norm [2,7]] [
 ⟨some 58,none,.fieldAddr 2 (.s 7)⟩,
 ⟨some 59,none,.load none (some 7) false (.s 58)⟩,
 ⟨some 60,none,.mv false (.s 1)⟩,
 ⟨some 61,none,.bin .eql (.s 59) (.s 60)⟩,
 ⟨some 62,none,.mv false (.s 61)⟩,
 ⟨some 63,(some (62,true)),.fieldAddr 0 (.s 7)⟩,
 ⟨some 64,(some (62,true)),.load none (some 7) false (.s 63)⟩,
 ⟨some 65,(some (62,true)),.bin .eql (.s 64) (.c (i64 1))⟩,
 ⟨some 66,(some (62,true)),.mv false (.s 65)⟩,
 ⟨some 67,(some (66,false)),.fieldAddr 0 (.s 7)⟩,
 ⟨some 68,(some (66,false)),.load none (some 7) false (.s 67)⟩,
 ⟨some 69,(some (66,false)),.bin .eql (.s 68) (.c (i64 3))⟩,
 ⟨some 70,(some (62,true)),.pick (.s 66) (.c (bo true)) (.s 69)⟩,
 ⟨some 71,none,.pick (.s 62) (.s 70) (.c (bo false))⟩]) (
 .cond (.s 71) (
 .region [2,5,6] [] [
 ⟨some 72,none,.mv false (.s 5)⟩,
 ⟨some 73,none,.bin .or (.s 72) (.c (i64 512))⟩,
 ⟨some 5,none,.mv false (.s 73)⟩]) (
 .ghost (.keep [2,5,6]) .skip))
def z7l:z9a:=
 .seq (
 .seq (
 .region [2,5,6,7,55] [.norm [2,7]] [
 ⟨some 47,none,.fieldAddr 1 (.s 7)⟩,
 ⟨some 48,none,.load none (some 7) false (.s 47)⟩,
 ⟨some 49,none,.mv false (.s 1)⟩,
 ⟨some 50,none,.bin .eql (.s 48) (.s 49)⟩,
 ⟨some 51,none,.mv false (.s 50)⟩,
 ⟨some 52,(some (51,true)),.fieldAddr 0 (.s 7)⟩,
 ⟨some 53,(some (51,true)),.load none (some 7) false (.s 52)⟩,
 ⟨some 54,(some (51,true)),.bin .eql (.s 53) (.c (i64 5))⟩,
 ⟨some 55,none,.pick (.s 51) (.s 54) (.c (bo false))⟩]) (
 .cond (.s 55) (
 .region [2,5,6,7] [] [
 ⟨some 56,none,.mv false (.s 5)⟩,
 ⟨some 57,none,.bin .or (.s 56) (.c (i64 256))⟩,
 ⟨some 5,none,.mv false (.s 57)⟩]) (
 .ghost (.keep [2,5,6,7]) .skip))) (
 z8j)
def z8l:z9a:=
 .seq (
 .block 1 (
 .seq (
 .region [2,5,6,7] [.norm [2,7]] [
 ⟨some 26,none,.fieldAddr 2 (.s 2)⟩,
 ⟨some 27,none,.load none (some 2) false (.s 26)⟩,
 ⟨some 28,none,.mv false (.s 6)⟩,
 ⟨some 29,none,.idxSl 3 (.s 27) (.s 28)⟩,
 ⟨some 30,none,.load (some 3) none false (.s 29)⟩,
 ⟨some 7,none,.alloc 7 [i64 0,i64 0,i64 0]⟩,
 ⟨none,none,.store (some 3) 7 false (.s 7) (.s 30)⟩]) (
 .seq (
 .seq (
 .region [2,5,6,7,44] [.norm [2,7]] [
 ⟨some 31,none,.fieldAddr 1 (.s 7)⟩,
 ⟨some 32,none,.load none (some 7) false (.s 31)⟩,
 ⟨some 33,none,.mv false (.s 1)⟩,
 ⟨some 34,none,.bin .eql (.s 32) (.s 33)⟩,
 ⟨some 35,none,.mv false (.s 34)⟩,
 ⟨some 36,(some (35,true)),.fieldAddr 0 (.s 7)⟩,
 ⟨some 37,(some (35,true)),.load none (some 7) false (.s 36)⟩,
 ⟨some 38,(some (35,true)),.bin .geq (.s 37) (.c (i64 1))⟩,
 ⟨some 39,none,.pick (.s 35) (.s 38) (.c (bo false))⟩,
 ⟨some 40,none,.mv false (.s 39)⟩,
 ⟨some 41,(some (40,true)),.fieldAddr 0 (.s 7)⟩,
 ⟨some 42,(some (40,true)),.load none (some 7) false (.s 41)⟩,
 ⟨some 43,(some (40,true)),.bin .leq (.s 42) (.c (i64 4))⟩,
 ⟨some 44,none,.pick (.s 40) (.s 43) (.c (bo false))⟩]) (
 .cond (.s 44) (
 .region [2,5,6,7] [] [
 ⟨some 45,none,.mv false (.s 5)⟩,
 ⟨some 46,none,.bin .or (.s 45) (.c (i64 128))⟩,
 ⟨some 5,none,.mv false (.s 46)⟩]) (
 .ghost (.keep [2,5,6,7]) .skip))) (
 z7l)))) (
 .region [2,5,6] [.drop [7]] [
 ⟨some 24,none,.mv false (.s 6)⟩,
 ⟨some 25,none,.bin .add (.s 24) (.c (i64 1))⟩,
 ⟨some 6,none,.mv false (.s 25)⟩])
def z9j:z9a:=
 .seq (
 .seq (
 .region [2,5,6,23] [.norm [2]] [
 ⟨some 19,none,.mv false (.s 6)⟩,
 ⟨some 20,none,.fieldAddr 2 (.s 2)⟩,
 ⟨some 21,none,.load none (some 2) false (.s 20)⟩,
 ⟨some 22,none,.len false (.s 21)⟩,
 ⟨some 23,none,.bin .lss (.s 19) (.s 22)⟩]) (
 .cond (.s 23) (
 .ghost (.keep [2,5,6]) .skip) (
 .ghost (.keep [5]) (.exit 0)))) (
 z8l)
def z9B:z9a:=
 .seq (
 .region [4] [] [
 ⟨some 74,none,.mv false (.s 5)⟩,
 ⟨some 4,none,.mv false (.s 74)⟩]) (
 .ret)
def z0D:z9a:=
 .seq (
 .region [2,5] [.norm [2]] [
 ⟨some 12,none,.fieldAddr 1 (.s 2)⟩,
 ⟨some 13,none,.load none (some 2) false (.s 12)⟩,
 ⟨some 14,none,.mv false (.s 1)⟩,
 ⟨some 15,none,.idxSl 3 (.s 13) (.s 14)⟩,
 ⟨some 16,none,.fieldAddr 1 (.s 15)⟩,
 ⟨some 17,none,.load none none false (.s 16)⟩,
 ⟨some 18,none,.bin .and (.s 17) (.c (i64 60))⟩,
 ⟨some 5,none,.mv false (.s 18)⟩]) (
 .seq (
 .seq (
 .region [2,5,6] [] [
 ⟨some 6,none,.mv false (.c (i64 0))⟩]) (
 .block 0 (
 .loop z9j))) (
 z9B))
def z2g:z2p:=
 {n:=2,wr:=[],res:=[.t 4],body:=
 .seq (
 .region [2] [.norm [2]] [
 ⟨some 2,none,.box 2 (some 4) false (.s 0)⟩,
 ⟨some 4,none,.mv false (.c (i64 0))⟩]) (
 .seq (
 .seq (
 .region [2,11] [.norm [2]] [
 ⟨some 8,none,.load (some 4) (some 2) false (.s 2)⟩,
 ⟨some 9,none,.mv false (.s 1)⟩,
 ⟨some 10,none,.call 276 [(.s 8),(.s 9)] []⟩,
 ⟨some 11,none,.un .not (.s 10)⟩]) (
 .cond (.s 11) (
 .seq (
 .region [4] [] [
 ⟨some 4,none,.mv false (.c (i64 0))⟩]) (
 .ret)) (
 .ghost (.keep [2]) .skip))) (
 z0D))}

def z1w:z9a:=
 .seq (
 .block 1 (
 .seq (
 .region [1,3,34] [.norm [1]] [
 ⟨some 27,none,.fieldAddr 1 (.s 1)⟩,
 ⟨some 28,none,.load none (some 1) false (.s 27)⟩,
 ⟨some 29,none,.mv false (.s 3)⟩,
 ⟨some 30,none,.idxSl 3 (.s 28) (.s 29)⟩,
 ⟨some 31,none,.fieldAddr 0 (.s 30)⟩,
 ⟨some 32,none,.load none none false (.s 31)⟩,
 ⟨some 33,none,.len true (.s 32)⟩,
 ⟨some 34,none,.bin .gtr (.s 33) (.c (i64 40))⟩]) (
 .cond (.s 34) (
 .seq (
 .region [2] [] [
 ⟨some 2,none,.mv false (.c (bo false))⟩]) (
 .ret)) (
 .ghost (.keep [1,3]) .skip)))) (
 .region [1,3] [] [
 ⟨some 25,none,.mv false (.s 3)⟩,
 ⟨some 26,none,.bin .add (.s 25) (.c (i64 1))⟩,
 ⟨some 3,none,.mv false (.s 26)⟩])
def z5p:z9a:=
 .seq (
 .seq (
 .region [1,3,24] [.norm [1]] [
 ⟨some 20,none,.mv false (.s 3)⟩,
 ⟨some 21,none,.fieldAddr 1 (.s 1)⟩,
 ⟨some 22,none,.load none (some 1) false (.s 21)⟩,
 ⟨some 23,none,.len false (.s 22)⟩,
 ⟨some 24,none,.bin .lss (.s 20) (.s 23)⟩]) (
 .cond (.s 24) (
 .ghost (.keep [1,3]) .skip) (
 .ghost (.keep []) (.exit 0)))) (
 z1w)
def z7H:z9a:=
 .seq (
 .region [2] [] [
 ⟨some 2,none,.mv false (.c (bo true))⟩]) (
 .ret)
def z2G:z9a:=
 .seq (
 .seq (
 .region [1,3] [] [
 ⟨some 3,none,.mv false (.c (i64 0))⟩]) (
 .block 0 (
 .loop z5p))) (
 z7H)
def z7e:z2p:=
 {n:=1,wr:=[],res:=[.t 2],body:=
 .seq (
 .region [1] [.norm [1]] [
 ⟨some 1,none,.box 1 (some 4) false (.s 0)⟩,
 ⟨some 2,none,.mv false (.c (bo false))⟩]) (
 .seq (
 .seq (
 .region [1,19] [.norm [1]] [
 ⟨some 4,none,.fieldAddr 1 (.s 1)⟩,
 ⟨some 5,none,.load none (some 1) false (.s 4)⟩,
 ⟨some 6,none,.len false (.s 5)⟩,
 ⟨some 7,none,.bin .gtr (.s 6) (.c (i64 40))⟩,
 ⟨some 8,none,.mv false (.s 7)⟩,
 ⟨some 9,(some (8,false)),.fieldAddr 2 (.s 1)⟩,
 ⟨some 10,(some (8,false)),.load none (some 1) false (.s 9)⟩,
 ⟨some 11,(some (8,false)),.len false (.s 10)⟩,
 ⟨some 12,(some (8,false)),.bin .gtr (.s 11) (.c (i64 100))⟩,
 ⟨some 13,none,.pick (.s 8) (.c (bo true)) (.s 12)⟩,
 ⟨some 14,none,.mv false (.s 13)⟩,
 ⟨some 15,(some (14,false)),.fieldAddr 3 (.s 1)⟩,
 ⟨some 16,(some (14,false)),.load none (some 1) false (.s 15)⟩,
 ⟨some 17,(some (14,false)),.len false (.s 16)⟩,
 ⟨some 18,(some (14,false)),.bin .gtr (.s 17) (.c (i64 40))⟩,
 ⟨some 19,none,.pick (.s 14) (.c (bo true)) (.s 18)⟩]) (
 .cond (.s 19) (
 .seq (
 .region [2] [] [
 ⟨some 2,none,.mv false (.c (bo false))⟩]) (
 .ret)) (
 .ghost (.keep [1]) .skip))) (
 z2G))}

def z8C:z9a:=
 .seq (
 .region [8] [] [
 ⟨some 8,none,.mv false (.c (i64 0))⟩]) (
 .ret)
def z0e:z9a:=
 .seq (
 .seq (
 .region [61] [.norm [4,5,9]] [
 ⟨some 59,none,.fieldAddr 6 (.s 9)⟩,
 ⟨some 60,none,.load none (some 9) false (.s 59)⟩,
 ⟨some 61,none,.bin .eql (.s 60) (.c (i64 2147483647))⟩]) (
 .cond (.s 61) (
 .seq (
 .region [8] [] [
 ⟨some 8,none,.mv false (.c (i64 2))⟩]) (
 .ret)) (
 .ghost (.keep []) .skip))) (
 z8C)
def z4e:z9a:=
 .seq (
 .region [4,9,14] [.norm [4,5,9]] [
 ⟨some 42,none,.load (some 4) (some 4) false (.s 4)⟩,
 ⟨some 43,none,.fieldAddr 1 (.s 9)⟩,
 ⟨some 44,none,.load none (some 9) false (.s 43)⟩,
 ⟨some 45,none,.call 270 [(.s 42),(.s 44),(.c (i64 1))] []⟩,
 ⟨some 14,none,.mv false (.s 45)⟩]) (
 .seq (
 .region [9,14,15] [.norm [4,5,9]] [
 ⟨some 46,none,.fieldAddr 3 (.s 9)⟩,
 ⟨some 47,none,.load none (some 9) false (.s 46)⟩,
 ⟨some 48,none,.load (some 4) (some 4) false (.s 4)⟩,
 ⟨some 49,none,.fieldAddr 1 (.s 9)⟩,
 ⟨some 50,none,.load none (some 9) false (.s 49)⟩,
 ⟨some 51,none,.call 277 [(.s 48),(.s 50)] []⟩,
 ⟨some 52,none,.call 275 [(.s 47),(.s 51)] []⟩,
 ⟨some 15,none,.mv false (.s 52)⟩]) (
 .seq (
 .seq (
 .region [9,58] [] [
 ⟨some 53,none,.mv false (.s 14)⟩,
 ⟨some 54,none,.un .not (.s 53)⟩,
 ⟨some 55,none,.mv false (.s 54)⟩,
 ⟨some 56,(some (55,false)),.mv false (.s 15)⟩,
 ⟨some 57,(some (55,false)),.un .not (.s 56)⟩,
 ⟨some 58,none,.pick (.s 55) (.c (bo true)) (.s 57)⟩]) (
 .cond (.s 58) (
 .seq (
 .region [8] [] [
 ⟨some 8,none,.mv false (.c (i64 10))⟩]) (
 .ret)) (
 .ghost (.keep [9]) .skip))) (
 z0e)))
def z1e:z9a:=
 .seq (
 .region [4,9,13] [.norm [4,5,9]] [
 ⟨some 36,none,.load (some 2) (some 5) false (.s 5)⟩,
 ⟨some 37,none,.mv false (.s 3)⟩,
 ⟨some 38,none,.call 264 [(.s 36),(.s 37)] []⟩,
 ⟨some 35,none,.mv false (.s 38)⟩,
 ⟨some 39,none,.extract 0 (.s 35)⟩,
 ⟨some 40,none,.extract 1 (.s 35)⟩,
 ⟨some 12,none,.mv false (.s 39)⟩,
 ⟨some 13,none,.mv false (.s 40)⟩]) (
 .seq (
 .seq (
 .region [4,9,41] [] [
 ⟨some 41,none,.mv false (.s 13)⟩]) (
 .cond (.s 41) (
 .seq (
 .region [8] [] [
 ⟨some 8,none,.mv false (.c (i64 12))⟩]) (
 .ret)) (
 .ghost (.keep [4,9]) .skip))) (
 z4e))
def z2e:z9a:=
 .seq (
 .region [4,5,9,11] [.norm [4,5,9]] [
 ⟨some 30,none,.load (some 9) (some 9) false (.s 9)⟩,
 ⟨some 31,none,.mv false (.s 2)⟩,
 ⟨some 32,none,.call 269 [(.s 30),(.s 31)] []⟩,
 ⟨some 11,none,.mv false (.s 32)⟩]) (
 .seq (
 .seq (
 .region [4,5,9,34] [] [
 ⟨some 33,none,.mv false (.s 11)⟩,
 ⟨some 34,none,.un .not (.s 33)⟩]) (
 .cond (.s 34) (
 .seq (
 .region [8] [] [
 ⟨some 8,none,.mv false (.c (i64 13))⟩]) (
 .ret)) (
 .ghost (.keep [4,5,9]) .skip))) (
 z1e))
def z9d:z9a:=
 .seq (
 .region [4,5,9,10] [.norm [4,5,9]] [
 ⟨some 23,none,.load (some 2) (some 5) false (.s 5)⟩,
 ⟨some 24,none,.mv false (.s 3)⟩,
 ⟨some 25,none,.call 258 [(.s 23),(.s 24)] []⟩,
 ⟨some 22,none,.mv false (.s 25)⟩,
 ⟨some 26,none,.extract 0 (.s 22)⟩,
 ⟨some 27,none,.extract 1 (.s 22)⟩,
 ⟨some 9,none,.alloc 9 ([i64 0,i64 0]++[st []]++List.replicate 5 (i64 0)++[bo false])⟩,
 ⟨none,none,.store (some 9) 9 false (.s 9) (.s 26)⟩,
 ⟨some 10,none,.mv false (.s 27)⟩]) (
 .seq (
 .seq (
 .region [4,5,9,29] [] [
 ⟨some 28,none,.mv false (.s 10)⟩,
 ⟨some 29,none,.bin .neq (.s 28) (.c (i64 0))⟩]) (
 .cond (.s 29) (
 .seq (
 .region [8] [] [
 ⟨some 8,none,.mv false (.c (i64 11))⟩]) (
 .ret)) (
 .ghost (.keep [4,5,9]) .skip))) (
 z2e))
def z6b:z2p:=
 {n:=4,wr:=[],res:=[.t 8],body:=
 .seq (
 .region [4,5] [.norm [4,5]] [
 ⟨some 4,none,.box 4 (some 4) false (.s 0)⟩,
 ⟨some 5,none,.box 5 (some 2) false (.s 1)⟩,
 ⟨some 8,none,.mv false (.c (i64 0))⟩]) (
 .seq (
 .seq (
 .region [4,5,21] [] [
 ⟨some 16,none,.mv false (.s 2)⟩,
 ⟨some 17,none,.bin .lss (.s 16) (.c (i64 0))⟩,
 ⟨some 18,none,.mv false (.s 17)⟩,
 ⟨some 19,(some (18,false)),.mv false (.s 2)⟩,
 ⟨some 20,(some (18,false)),.bin .geq (.s 19) (.c (i64 1099511627776))⟩,
 ⟨some 21,none,.pick (.s 18) (.c (bo true)) (.s 20)⟩]) (
 .cond (.s 21) (
 .seq (
 .region [8] [] [
 ⟨some 8,none,.mv false (.c (i64 1))⟩]) (
 .ret)) (
 .ghost (.keep [4,5]) .skip))) (
 z9d))}

def z5w:z9a:=
 .seq (
 .region [4,5] [.norm [2,4]] [
 ⟨some 13,none,.fieldAddr 1 (.s 2)⟩,
 ⟨some 14,none,.load none (some 2) false (.s 13)⟩,
 ⟨some 15,none,.mv false (.s 6)⟩,
 ⟨some 16,none,.idxSl 9 (.s 14) (.s 15)⟩,
 ⟨some 17,none,.load (some 9) none false (.s 16)⟩,
 ⟨none,none,.store (some 9) 4 false (.s 4) (.s 17)⟩,
 ⟨some 5,none,.mv false (.c (i64 0))⟩]) (
 .ret)
def z3h:z2p:=
 {n:=2,wr:=[],res:=[.cell 4 (some 9) 4,.t 5],body:=
 .seq (
 .region [2,4] [.norm [2,4]] [
 ⟨some 2,none,.box 2 (some 2) false (.s 0)⟩,
 ⟨some 4,none,.alloc 4 ([i64 0,i64 0]++[st []]++List.replicate 5 (i64 0)++[bo false])⟩,
 ⟨some 5,none,.mv false (.c (i64 0))⟩]) (
 .seq (
 .region [2,4,6] [.norm [2,4]] [
 ⟨some 7,none,.load (some 2) (some 2) false (.s 2)⟩,
 ⟨some 8,none,.mv false (.s 1)⟩,
 ⟨some 9,none,.call 279 [(.s 7),(.s 8)] []⟩,
 ⟨some 6,none,.mv false (.s 9)⟩]) (
 .seq (
 .seq (
 .region [2,4,6,11] [] [
 ⟨some 10,none,.mv false (.s 6)⟩,
 ⟨some 11,none,.bin .lss (.s 10) (.c (i64 0))⟩]) (
 .cond (.s 11) (
 .seq (
 .region [4,5] [.norm [2,4]] [
 ⟨some 12,none,.build ([i64 0,i64 0]++[st []]++List.replicate 5 (i64 0)++[bo false]) []⟩,
 ⟨none,none,.store (some 9) 4 false (.s 4) (.s 12)⟩,
 ⟨some 5,none,.mv false (.c (i64 11))⟩]) (
 .ret)) (
 .ghost (.keep [2,4,6]) .skip))) (
 z5w)))}

def z1I:z9a:=
 .seq (
 .region [2,3,4,7,8] [] [
 ⟨some 8,none,.mv true (.c (.sl (.own 9) none 0 []))⟩]) (
 .seq (
 .region [2,3,4,7,8] [.norm [2,3,4],.hideB 2 1,.norm [2,3,4],.thaw 8 1008,.norm [2,3,4,1008]] [
 ⟨some 28,none,.mv true (.s 8)⟩,
 ⟨some 29,none,.fieldAddr 1 (.s 2)⟩,
 ⟨some 30,none,.load none (some 2) false (.s 29)⟩,
 ⟨some 31,none,.append 9 80 false none none 28 (.s 30)⟩,
 ⟨some 8,none,.mv true (.s 31)⟩]) (
 .seq (
 .region [2,4,8] [.norm [2,3,4,1008]] [
 ⟨some 32,none,.mv false (.s 8)⟩,
 ⟨some 33,none,.mv false (.s 7)⟩,
 ⟨some 34,none,.load (some 9) (some 3) false (.s 3)⟩,
 ⟨some 35,none,.idxSl 9 (.s 32) (.s 33)⟩,
 ⟨none,none,.store (some 9) 1008 false (.s 35) (.s 34)⟩]) (
 .seq (
 .region [4,5] [.norm [2,3,4,1008],.freeze [1008]] [
 ⟨some 36,none,.fieldAddr 0 (.s 2)⟩,
 ⟨some 37,none,.load none (some 2) false (.s 36)⟩,
 ⟨some 38,none,.mv true (.s 8)⟩,
 ⟨some 39,none,.build [i64 0,.sl .plain none 0 []] [(0,1,(.s 37)),(1,1,(.s 38))]⟩,
 ⟨none,none,.store (some 2) 4 false (.s 4) (.s 39)⟩,
 ⟨some 5,none,.mv false (.c (i64 0))⟩]) (
 .ret))))
def z8m:z9a:=
 .seq (
 .region [2,3,4,7] [.norm [2,3,4]] [
 ⟨some 21,none,.load (some 2) (some 2) false (.s 2)⟩,
 ⟨some 22,none,.fieldAddr 0 (.s 3)⟩,
 ⟨some 23,none,.load none (some 3) false (.s 22)⟩,
 ⟨some 24,none,.call 279 [(.s 21),(.s 23)] []⟩,
 ⟨some 7,none,.mv false (.s 24)⟩]) (
 .seq (
 .seq (
 .region [2,3,4,7,26] [] [
 ⟨some 25,none,.mv false (.s 7)⟩,
 ⟨some 26,none,.bin .lss (.s 25) (.c (i64 0))⟩]) (
 .cond (.s 26) (
 .seq (
 .region [4,5] [.norm [2,3,4]] [
 ⟨some 27,none,.build [i64 0,.sl .plain none 0 []] []⟩,
 ⟨none,none,.store (some 2) 4 false (.s 4) (.s 27)⟩,
 ⟨some 5,none,.mv false (.c (i64 11))⟩]) (
 .ret)) (
 .ghost (.keep [2,3,4,7]) .skip))) (
 z1I))
def z5e:z2p:=
 {n:=2,wr:=[],res:=[.cell 4 (some 2) 4,.t 5],body:=
 .seq (
 .region [2,3,4] [.norm [2,3,4]] [
 ⟨some 2,none,.box 2 (some 2) false (.s 0)⟩,
 ⟨some 3,none,.box 3 (some 9) false (.s 1)⟩,
 ⟨some 4,none,.alloc 4 [i64 0,.sl (.own 9) none 0 []]⟩,
 ⟨some 5,none,.mv false (.c (i64 0))⟩]) (
 .seq (
 .region [2,3,4,6] [.norm [2,3,4]] [
 ⟨some 9,none,.load (some 9) (some 3) false (.s 3)⟩,
 ⟨some 10,none,.call 273 [(.s 9)] []⟩,
 ⟨some 6,none,.mv false (.s 10)⟩]) (
 .seq (
 .seq (
 .region [2,3,4,19] [.norm [2,3,4]] [
 ⟨some 11,none,.mv false (.s 6)⟩,
 ⟨some 12,none,.un .not (.s 11)⟩,
 ⟨some 13,none,.mv false (.s 12)⟩,
 ⟨some 14,(some (13,false)),.fieldAddr 7 (.s 3)⟩,
 ⟨some 15,(some (13,false)),.load none (some 3) false (.s 14)⟩,
 ⟨some 16,(some (13,false)),.fieldAddr 0 (.s 2)⟩,
 ⟨some 17,(some (13,false)),.load none (some 2) false (.s 16)⟩,
 ⟨some 18,(some (13,false)),.bin .geq (.s 15) (.s 17)⟩,
 ⟨some 19,none,.pick (.s 13) (.c (bo true)) (.s 18)⟩]) (
 .cond (.s 19) (
 .seq (
 .region [4,5] [.norm [2,3,4]] [
 ⟨some 20,none,.build [i64 0,.sl .plain none 0 []] []⟩,
 ⟨none,none,.store (some 2) 4 false (.s 4) (.s 20)⟩,
 ⟨some 5,none,.mv false (.c (i64 1))⟩]) (
 .ret)) (
 .ghost (.keep [2,3,4]) .skip))) (
 z8m)))}

def z8H:z9a:=
 .seq (
 .region [2,3,4] [.norm [2,3,4]] [
 ⟨some 29,none,.fieldAddr 0 (.s 2)⟩,
 ⟨some 30,none,.load none (some 2) false (.s 29)⟩,
 ⟨some 31,none,.fieldAddr 0 (.s 3)⟩,
 ⟨none,none,.store none 3 false (.s 31) (.s 30)⟩]) (
 .seq (
 .region [2,3,4,6] [] [
 ⟨some 6,none,.mv true (.c (.sl (.own 9) none 0 []))⟩]) (
 .seq (
 .region [2,3,4,6] [.norm [2,3,4]] [
 ⟨some 32,none,.mv true (.s 6)⟩,
 ⟨some 33,none,.fieldAddr 1 (.s 2)⟩,
 ⟨some 34,none,.load none (some 2) false (.s 33)⟩,
 ⟨some 35,none,.append 9 80 false none none 32 (.s 34)⟩,
 ⟨some 6,none,.mv true (.s 35)⟩]) (
 .seq (
 .region [4] [.norm [2,3,4]] [
 ⟨some 36,none,.fieldAddr 0 (.s 2)⟩,
 ⟨some 37,none,.load none (some 2) false (.s 36)⟩,
 ⟨some 38,none,.bin .add (.s 37) (.c (i64 1))⟩,
 ⟨some 39,none,.mv true (.s 6)⟩,
 ⟨some 40,none,.load (some 9) (some 3) false (.s 3)⟩,
 ⟨some 41,none,.buildSl 9 1 [i64 0,i64 0,st [],i64 0,i64 0,i64 0,i64 0,i64 0,bo false] [(0,9,(.s 40))]⟩,
 ⟨some 42,none,.append 9 80 false none none 39 (.s 41)⟩,
 ⟨some 43,none,.build [i64 0,.sl .plain none 0 []] [(0,1,(.s 38)),(1,1,(.s 42))]⟩,
 ⟨some 44,none,.fieldAddr 0 (.s 3)⟩,
 ⟨some 45,none,.load none (some 3) false (.s 44)⟩,
 ⟨some 46,none,.build [i64 0,.sl .plain none 0 [],i64 0,i64 0] [(0,2,(.s 43)),(2,1,(.s 45))]⟩,
 ⟨none,none,.store (some 4) 4 false (.s 4) (.s 46)⟩]) (
 .ret))))
def z9k:z9a:=
 .seq (
 .seq (
 .region [2,3,4,27] [.norm [2,3,4]] [
 ⟨some 19,none,.fieldAddr 1 (.s 2)⟩,
 ⟨some 20,none,.load none (some 2) false (.s 19)⟩,
 ⟨some 21,none,.len false (.s 20)⟩,
 ⟨some 22,none,.bin .geq (.s 21) (.c (i64 4096))⟩,
 ⟨some 23,none,.mv false (.s 22)⟩,
 ⟨some 24,(some (23,false)),.fieldAddr 0 (.s 2)⟩,
 ⟨some 25,(some (23,false)),.load none (some 2) false (.s 24)⟩,
 ⟨some 26,(some (23,false)),.bin .geq (.s 25) (.c (i64 2147483647))⟩,
 ⟨some 27,none,.pick (.s 23) (.c (bo true)) (.s 26)⟩]) (
 .cond (.s 27) (
 .seq (
 .region [4] [.norm [2,3,4]] [
 ⟨some 28,none,.build [i64 0,.sl .plain none 0 [],i64 0,i64 0] [(3,1,(.c (i64 2)))]⟩,
 ⟨none,none,.store (some 4) 4 false (.s 4) (.s 28)⟩]) (
 .ret)) (
 .ghost (.keep [2,3,4]) .skip))) (
 z8H)
def z5d:z2p:=
 {n:=2,wr:=[],res:=[.cell 4 (some 4) 4],body:=
 .seq (
 .region [2,3,4] [.norm [2,3,4]] [
 ⟨some 2,none,.box 2 (some 2) false (.s 0)⟩,
 ⟨some 3,none,.box 3 (some 9) false (.s 1)⟩,
 ⟨some 4,none,.alloc 4 [i64 0,.sl (.own 9) none 0 [],i64 0,i64 0]⟩]) (
 .seq (
 .region [2,3,4,5] [.norm [2,3,4]] [
 ⟨some 7,none,.load (some 9) (some 3) false (.s 3)⟩,
 ⟨some 8,none,.call 273 [(.s 7)] []⟩,
 ⟨some 5,none,.mv false (.s 8)⟩]) (
 .seq (
 .seq (
 .region [2,3,4,17] [.norm [2,3,4]] [
 ⟨some 9,none,.mv false (.s 5)⟩,
 ⟨some 10,none,.un .not (.s 9)⟩,
 ⟨some 11,none,.mv false (.s 10)⟩,
 ⟨some 12,(some (11,false)),.fieldAddr 7 (.s 3)⟩,
 ⟨some 13,(some (11,false)),.load none (some 3) false (.s 12)⟩,
 ⟨some 14,(some (11,false)),.fieldAddr 0 (.s 2)⟩,
 ⟨some 15,(some (11,false)),.load none (some 2) false (.s 14)⟩,
 ⟨some 16,(some (11,false)),.bin .geq (.s 13) (.s 15)⟩,
 ⟨some 17,none,.pick (.s 11) (.c (bo true)) (.s 16)⟩]) (
 .cond (.s 17) (
 .seq (
 .region [4] [.norm [2,3,4]] [
 ⟨some 18,none,.build [i64 0,.sl .plain none 0 [],i64 0,i64 0] [(3,1,(.c (i64 1)))]⟩,
 ⟨none,none,.store (some 4) 4 false (.s 4) (.s 18)⟩]) (
 .ret)) (
 .ghost (.keep [2,3,4]) .skip))) (
 z9k)))}

def z3c:z2p:=
 {n:=2,wr:=[],res:=[.t 4],body:=
 .seq (
 .region [2,3] [.norm [2,3]] [
 ⟨some 2,none,.box 2 (some 9) false (.s 0)⟩,
 ⟨some 3,none,.box 3 (some 9) false (.s 1)⟩,
 ⟨some 4,none,.mv false (.c (bo false))⟩]) (
 .seq (
 .region [4] [.norm [2,3]] [
 ⟨some 5,none,.fieldAddr 0 (.s 2)⟩,
 ⟨some 6,none,.load none (some 2) false (.s 5)⟩,
 ⟨some 7,none,.fieldAddr 0 (.s 3)⟩,
 ⟨some 8,none,.load none (some 3) false (.s 7)⟩,
 ⟨some 9,none,.bin .gtr (.s 6) (.s 8)⟩,
 ⟨some 10,none,.mv false (.s 9)⟩,
 ⟨some 11,(some (10,true)),.fieldAddr 1 (.s 2)⟩,
 ⟨some 12,(some (10,true)),.load none (some 2) false (.s 11)⟩,
 ⟨some 13,(some (10,true)),.fieldAddr 1 (.s 3)⟩,
 ⟨some 14,(some (10,true)),.load none (some 3) false (.s 13)⟩,
 ⟨some 15,(some (10,true)),.bin .eql (.s 12) (.s 14)⟩,
 ⟨some 16,none,.pick (.s 10) (.s 15) (.c (bo false))⟩,
 ⟨some 17,none,.mv false (.s 16)⟩,
 ⟨some 18,(some (17,true)),.fieldAddr 7 (.s 2)⟩,
 ⟨some 19,(some (17,true)),.load none (some 2) false (.s 18)⟩,
 ⟨some 20,(some (17,true)),.fieldAddr 0 (.s 3)⟩,
 ⟨some 21,(some (17,true)),.load none (some 3) false (.s 20)⟩,
 ⟨some 22,(some (17,true)),.bin .eql (.s 19) (.s 21)⟩,
 ⟨some 23,none,.pick (.s 17) (.s 22) (.c (bo false))⟩,
 ⟨some 24,none,.mv false (.s 23)⟩,
 ⟨some 25,(some (24,true)),.fieldAddr 6 (.s 2)⟩,
 ⟨some 26,(some (24,true)),.load none (some 2) false (.s 25)⟩,
 ⟨some 27,(some (24,true)),.fieldAddr 6 (.s 3)⟩,
 ⟨some 28,(some (24,true)),.load none (some 3) false (.s 27)⟩,
 ⟨some 29,(some (24,true)),.bin .add (.s 28) (.c (i64 1))⟩,
 ⟨some 30,(some (24,true)),.bin .eql (.s 26) (.s 29)⟩,
 ⟨some 31,none,.pick (.s 24) (.s 30) (.c (bo false))⟩,
 ⟨some 4,none,.mv false (.s 31)⟩]) (
 .ret))}

def z4g:z2p:=
 {n:=2,wr:=[],res:=[.t 4],body:=
 .seq (
 .region [2] [.norm [2]] [
 ⟨some 2,none,.box 2 (some 9) false (.s 0)⟩,
 ⟨some 4,none,.mv false (.c (bo false))⟩]) (
 .seq (
 .region [4] [.norm [2]] [
 ⟨some 5,none,.mv false (.s 1)⟩,
 ⟨some 6,none,.fieldAddr 4 (.s 2)⟩,
 ⟨some 7,none,.load none (some 2) false (.s 6)⟩,
 ⟨some 8,none,.bin .geq (.s 5) (.s 7)⟩,
 ⟨some 9,none,.mv false (.s 8)⟩,
 ⟨some 10,(some (9,true)),.mv false (.s 1)⟩,
 ⟨some 11,(some (9,true)),.fieldAddr 5 (.s 2)⟩,
 ⟨some 12,(some (9,true)),.load none (some 2) false (.s 11)⟩,
 ⟨some 13,(some (9,true)),.bin .lss (.s 10) (.s 12)⟩,
 ⟨some 14,none,.pick (.s 9) (.s 13) (.c (bo false))⟩,
 ⟨some 4,none,.mv false (.s 14)⟩]) (
 .ret))}

def z5h:z2p:=
 {n:=3,wr:=[],res:=[.t 6],body:=
 .seq (
 .region [3] [.norm [3]] [
 ⟨some 3,none,.box 3 (some 4) false (.s 0)⟩,
 ⟨some 6,none,.mv false (.c (bo false))⟩]) (
 .seq (
 .region [6] [.norm [3]] [
 ⟨some 7,none,.load (some 4) (some 3) false (.s 3)⟩,
 ⟨some 8,none,.mv false (.s 1)⟩,
 ⟨some 9,none,.call 276 [(.s 7),(.s 8)] []⟩,
 ⟨some 10,none,.mv false (.s 9)⟩,
 ⟨some 11,(some (10,true)),.mv false (.s 2)⟩,
 ⟨some 12,(some (10,true)),.fieldAddr 1 (.s 3)⟩,
 ⟨some 13,(some (10,true)),.load none (some 3) false (.s 12)⟩,
 ⟨some 14,(some (10,true)),.mv false (.s 1)⟩,
 ⟨some 15,(some (10,true)),.idxSl 3 (.s 13) (.s 14)⟩,
 ⟨some 16,(some (10,true)),.fieldAddr 1 (.s 15)⟩,
 ⟨some 17,(some (10,true)),.load none none false (.s 16)⟩,
 ⟨some 18,(some (10,true)),.call 275 [(.s 11),(.s 17)] []⟩,
 ⟨some 19,none,.pick (.s 10) (.s 18) (.c (bo false))⟩,
 ⟨some 6,none,.mv false (.s 19)⟩]) (
 .ret))}

def z6e:z2p:=
 {n:=3,wr:=[],res:=[.t 6],body:=
 .seq (
 .region [] [] [
 ⟨some 6,none,.mv false (.c (bo false))⟩]) (
 .seq (
 .region [6] [] [
 ⟨some 7,none,.mv false (.s 0)⟩,
 ⟨some 8,none,.mv false (.s 1)⟩,
 ⟨some 9,none,.bin .geq (.s 7) (.s 8)⟩,
 ⟨some 10,none,.mv false (.s 9)⟩,
 ⟨some 11,(some (10,true)),.mv false (.s 0)⟩,
 ⟨some 12,(some (10,true)),.mv false (.s 2)⟩,
 ⟨some 13,(some (10,true)),.bin .leq (.s 11) (.s 12)⟩,
 ⟨some 14,none,.pick (.s 10) (.s 13) (.c (bo false))⟩,
 ⟨some 6,none,.mv false (.s 14)⟩]) (
 .ret))}

def z1c:z2p:=
 {n:=1,wr:=[],res:=[.t 2],body:=
 .seq (
 .region [1] [.norm [1]] [
 ⟨some 1,none,.box 1 (some 9) false (.s 0)⟩,
 ⟨some 2,none,.mv false (.c (bo false))⟩]) (
 .seq (
 .region [2] [.norm [1]] [
 ⟨some 3,none,.fieldAddr 1 (.s 1)⟩,
 ⟨some 4,none,.load none (some 1) false (.s 3)⟩,
 ⟨some 5,none,.call 272 [(.s 4),(.c (i64 0)),(.c (i64 31))] []⟩,
 ⟨some 6,none,.mv false (.s 5)⟩,
 ⟨some 7,(some (6,true)),.fieldAddr 2 (.s 1)⟩,
 ⟨some 8,(some (6,true)),.load none (some 1) false (.s 7)⟩,
 ⟨some 9,(some (6,true)),.len true (.s 8)⟩,
 ⟨some 10,(some (6,true)),.bin .eql (.s 9) (.c (i64 32))⟩,
 ⟨some 11,none,.pick (.s 6) (.s 10) (.c (bo false))⟩,
 ⟨some 12,none,.mv false (.s 11)⟩,
 ⟨some 13,(some (12,true)),.fieldAddr 3 (.s 1)⟩,
 ⟨some 14,(some (12,true)),.load none (some 1) false (.s 13)⟩,
 ⟨some 15,(some (12,true)),.bin .and (.s 14) (.c (i64 956))⟩,
 ⟨some 16,(some (12,true)),.fieldAddr 3 (.s 1)⟩,
 ⟨some 17,(some (12,true)),.load none (some 1) false (.s 16)⟩,
 ⟨some 18,(some (12,true)),.bin .eql (.s 15) (.s 17)⟩,
 ⟨some 19,none,.pick (.s 12) (.s 18) (.c (bo false))⟩,
 ⟨some 20,none,.mv false (.s 19)⟩,
 ⟨some 21,(some (20,true)),.fieldAddr 4 (.s 1)⟩,
 ⟨some 22,(some (20,true)),.load none (some 1) false (.s 21)⟩,
 ⟨some 23,(some (20,true)),.call 272 [(.s 22),(.c (i64 0)),(.c (i64 1099511627776))] []⟩,
 ⟨some 24,none,.pick (.s 20) (.s 23) (.c (bo false))⟩,
 ⟨some 25,none,.mv false (.s 24)⟩,
 ⟨some 26,(some (25,true)),.fieldAddr 5 (.s 1)⟩,
 ⟨some 27,(some (25,true)),.load none (some 1) false (.s 26)⟩,
 ⟨some 28,(some (25,true)),.fieldAddr 4 (.s 1)⟩,
 ⟨some 29,(some (25,true)),.load none (some 1) false (.s 28)⟩,
 ⟨some 30,(some (25,true)),.call 272 [(.s 27),(.s 29),(.c (i64 1099511627776))] []⟩,
 ⟨some 31,none,.pick (.s 25) (.s 30) (.c (bo false))⟩,
 ⟨some 32,none,.mv false (.s 31)⟩,
 ⟨some 33,(some (32,true)),.fieldAddr 6 (.s 1)⟩,
 ⟨some 34,(some (32,true)),.load none (some 1) false (.s 33)⟩,
 ⟨some 35,(some (32,true)),.call 272 [(.s 34),(.c (i64 1)),(.c (i64 2147483647))] []⟩,
 ⟨some 36,none,.pick (.s 32) (.s 35) (.c (bo false))⟩,
 ⟨some 37,none,.mv false (.s 36)⟩,
 ⟨some 38,(some (37,true)),.fieldAddr 7 (.s 1)⟩,
 ⟨some 39,(some (37,true)),.load none (some 1) false (.s 38)⟩,
 ⟨some 40,(some (37,true)),.call 272 [(.s 39),(.c (i64 0)),(.c (i64 2147483647))] []⟩,
 ⟨some 41,none,.pick (.s 37) (.s 40) (.c (bo false))⟩,
 ⟨some 2,none,.mv false (.s 41)⟩]) (
 .ret))}

def z8g:z2p:=
 {n:=2,wr:=[],res:=[.t 4],body:=
 .seq (
 .region [2] [.norm [2]] [
 ⟨some 2,none,.box 2 (some 4) false (.s 0)⟩,
 ⟨some 4,none,.mv false (.c (bo false))⟩]) (
 .seq (
 .region [4] [.norm [2]] [
 ⟨some 5,none,.mv false (.s 1)⟩,
 ⟨some 6,none,.bin .geq (.s 5) (.c (i64 0))⟩,
 ⟨some 7,none,.mv false (.s 6)⟩,
 ⟨some 8,(some (7,true)),.mv false (.s 1)⟩,
 ⟨some 9,(some (7,true)),.fieldAddr 1 (.s 2)⟩,
 ⟨some 10,(some (7,true)),.load none (some 2) false (.s 9)⟩,
 ⟨some 11,(some (7,true)),.len false (.s 10)⟩,
 ⟨some 12,(some (7,true)),.bin .lss (.s 8) (.s 11)⟩,
 ⟨some 13,none,.pick (.s 7) (.s 12) (.c (bo false))⟩,
 ⟨some 4,none,.mv false (.s 13)⟩]) (
 .ret))}

def z2x:z9a:=
 .seq (
 .block 1 (
 .seq (
 .region [2,5,20] [.norm [2]] [
 ⟨some 13,none,.fieldAddr 1 (.s 2)⟩,
 ⟨some 14,none,.load none (some 2) false (.s 13)⟩,
 ⟨some 15,none,.mv false (.s 5)⟩,
 ⟨some 16,none,.idxSl 9 (.s 14) (.s 15)⟩,
 ⟨some 17,none,.fieldAddr 0 (.s 16)⟩,
 ⟨some 18,none,.load none none false (.s 17)⟩,
 ⟨some 19,none,.mv false (.s 1)⟩,
 ⟨some 20,none,.bin .eql (.s 18) (.s 19)⟩]) (
 .cond (.s 20) (
 .seq (
 .region [4] [] [
 ⟨some 21,none,.mv false (.s 5)⟩,
 ⟨some 4,none,.mv false (.s 21)⟩]) (
 .ret)) (
 .ghost (.keep [2,5]) .skip)))) (
 .region [2,5] [] [
 ⟨some 11,none,.mv false (.s 5)⟩,
 ⟨some 12,none,.bin .add (.s 11) (.c (i64 1))⟩,
 ⟨some 5,none,.mv false (.s 12)⟩])
def z3q:z9a:=
 .seq (
 .seq (
 .region [2,5,10] [.norm [2]] [
 ⟨some 6,none,.mv false (.s 5)⟩,
 ⟨some 7,none,.fieldAddr 1 (.s 2)⟩,
 ⟨some 8,none,.load none (some 2) false (.s 7)⟩,
 ⟨some 9,none,.len false (.s 8)⟩,
 ⟨some 10,none,.bin .lss (.s 6) (.s 9)⟩]) (
 .cond (.s 10) (
 .ghost (.keep [2,5]) .skip) (
 .ghost (.keep []) (.exit 0)))) (
 z2x)
def z8J:z9a:=
 .seq (
 .region [4] [] [
 ⟨some 4,none,.mv false (.c (i64 (-1)))⟩]) (
 .ret)
def z5k:z2p:=
 {n:=2,wr:=[],res:=[.t 4],body:=
 .seq (
 .region [2] [.norm [2]] [
 ⟨some 2,none,.box 2 (some 2) false (.s 0)⟩,
 ⟨some 4,none,.mv false (.c (i64 0))⟩]) (
 .seq (
 .seq (
 .region [2,5] [] [
 ⟨some 5,none,.mv false (.c (i64 0))⟩]) (
 .block 0 (
 .loop z3q))) (
 z8J))}

end Go.Abs
end

section
namespace Go.Abs
set_option maxRecDepth 100000
def z0n:z9a:=
 .seq (
 .region [4,5,6,9,10,11,12,13] [.norm [4,5,6,10,11]] [
 ⟨some 30,none,.load (some 4) (some 4) false (.s 4)⟩,
 ⟨some 31,none,.load (some 2) (some 5) false (.s 5)⟩,
 ⟨some 32,none,.build [st []] [(0,1,(.c (st [115,101,101,100])))]⟩,
 ⟨some 33,none,.idxArr 2 1 (.s 6) (.c (i64 0))⟩,
 ⟨some 34,none,.load none (some 6) false (.s 33)⟩,
 ⟨some 35,none,.mv false (.s 3)⟩,
 ⟨some 36,none,.call 238 [(.s 30),(.s 31),(.s 32),(.s 34),(.s 35)] []⟩,
 ⟨some 29,none,.mv false (.s 36)⟩,
 ⟨some 37,none,.extract 0 (.s 29)⟩,
 ⟨some 38,none,.extract 1 (.s 29)⟩,
 ⟨some 39,none,.extract 2 (.s 29)⟩,
 ⟨some 40,none,.extract 3 (.s 29)⟩,
 ⟨some 10,none,.alloc 10 [i64 0,.sl (.own 9) none 0 []]⟩,
 ⟨some 11,none,.alloc 11 [st []]⟩,
 ⟨none,none,.store (some 2) 10 false (.s 10) (.s 37)⟩,
 ⟨none,none,.store (some 1) 11 false (.s 11) (.s 38)⟩,
 ⟨some 12,none,.mv true (.s 39)⟩,
 ⟨some 13,none,.mv false (.s 40)⟩]) (
 .seq (
 .region [4,5,6,9,10,11,12,13,14] [.norm [4,5,6,10,11,14]] [
 ⟨some 41,none,.load (some 4) (some 4) false (.s 4)⟩,
 ⟨some 42,none,.load (some 2) (some 5) false (.s 5)⟩,
 ⟨some 43,none,.build [st []] [(0,1,(.c (st [115,101,101,100])))]⟩,
 ⟨some 44,none,.idxArr 2 1 (.s 6) (.c (i64 0))⟩,
 ⟨some 45,none,.load none (some 6) false (.s 44)⟩,
 ⟨some 46,none,.mv false (.s 3)⟩,
 ⟨some 47,none,.call 268 [(.s 41),(.s 42),(.s 43),(.s 45),(.s 46)] []⟩,
 ⟨some 14,none,.alloc 14 ([i64 0]++[.sl (.own 9) none 0 []]++[st []]++[i64 0]++[.sl (.own 1) none 0 []]++[i64 0])⟩,
 ⟨none,none,.store (some 6) 14 false (.s 14) (.s 47)⟩]) (
 .seq (
 .region [4,5,6,9,11,12,13,14,15] [.norm [4,5,6,10,11,14]] [
 ⟨some 48,none,.load (some 2) (some 10) false (.s 10)⟩,
 ⟨some 49,none,.fieldAddr 0 (.s 14)⟩,
 ⟨some 50,none,.load (some 2) (some 14) false (.s 49)⟩,
 ⟨some 51,none,.call 262 [(.s 48),(.s 50)] []⟩,
 ⟨some 15,none,.mv false (.s 51)⟩]) (
 .seq (
 .region [4,5,6,9,11,13,14,15,16] [.norm [4,5,6,10,11,14]] [
 ⟨some 52,none,.mv true (.s 12)⟩,
 ⟨some 53,none,.fieldAddr 4 (.s 14)⟩,
 ⟨some 54,none,.load none (some 14) false (.s 53)⟩,
 ⟨some 55,none,.call 267 [(.s 52),(.s 54)] []⟩,
 ⟨some 16,none,.mv false (.s 55)⟩]) (
 .seq (
 .region [9,11,13,14,15,16,17] [.norm [4,5,6,10,11,14]] [
 ⟨some 56,none,.load (some 4) (some 4) false (.s 4)⟩,
 ⟨some 57,none,.load (some 2) (some 5) false (.s 5)⟩,
 ⟨some 58,none,.idxArr 2 1 (.s 6) (.c (i64 0))⟩,
 ⟨some 59,none,.load none (some 6) false (.s 58)⟩,
 ⟨some 60,none,.idxArr 2 1 (.s 6) (.c (i64 1))⟩,
 ⟨some 61,none,.load none (some 6) false (.s 60)⟩,
 ⟨some 62,none,.call 241 [(.s 56),(.s 57),(.s 59),(.s 61)] []⟩,
 ⟨some 63,none,.load (some 4) (some 4) false (.s 4)⟩,
 ⟨some 64,none,.load (some 2) (some 5) false (.s 5)⟩,
 ⟨some 65,none,.idxArr 2 1 (.s 6) (.c (i64 0))⟩,
 ⟨some 66,none,.load none (some 6) false (.s 65)⟩,
 ⟨some 67,none,.idxArr 2 1 (.s 6) (.c (i64 1))⟩,
 ⟨some 68,none,.load none (some 6) false (.s 67)⟩,
 ⟨some 69,none,.call 271 [(.s 63),(.s 64),(.s 66),(.s 68)] []⟩,
 ⟨some 70,none,.call 267 [(.s 62),(.s 69)] []⟩,
 ⟨some 17,none,.mv false (.s 70)⟩]) (
 .seq (
 .region [8] [.norm [4,5,6,10,11,14]] [
 ⟨some 71,none,.mv false (.s 9)⟩,
 ⟨some 72,none,.mv false (.s 71)⟩,
 ⟨some 73,(some (72,true)),.mv false (.s 15)⟩,
 ⟨some 74,none,.pick (.s 72) (.s 73) (.c (bo false))⟩,
 ⟨some 75,none,.mv false (.s 74)⟩,
 ⟨some 76,(some (75,true)),.mv false (.s 16)⟩,
 ⟨some 77,none,.pick (.s 75) (.s 76) (.c (bo false))⟩,
 ⟨some 78,none,.mv false (.s 77)⟩,
 ⟨some 79,(some (78,true)),.mv false (.s 17)⟩,
 ⟨some 80,none,.pick (.s 78) (.s 79) (.c (bo false))⟩,
 ⟨some 81,none,.mv false (.s 80)⟩,
 ⟨some 82,(some (81,true)),.fieldAddr 0 (.s 11)⟩,
 ⟨some 83,(some (81,true)),.load none (some 11) false (.s 82)⟩,
 ⟨some 84,(some (81,true)),.fieldAddr 2 (.s 14)⟩,
 ⟨some 85,(some (81,true)),.fieldAddr 0 (.s 84)⟩,
 ⟨some 86,(some (81,true)),.load none (some 14) false (.s 85)⟩,
 ⟨some 87,(some (81,true)),.bin .eql (.s 83) (.s 86)⟩,
 ⟨some 88,none,.pick (.s 81) (.s 87) (.c (bo false))⟩,
 ⟨some 89,none,.mv false (.s 88)⟩,
 ⟨some 90,(some (89,true)),.mv false (.s 13)⟩,
 ⟨some 91,(some (89,true)),.fieldAddr 5 (.s 14)⟩,
 ⟨some 92,(some (89,true)),.load none (some 14) false (.s 91)⟩,
 ⟨some 93,(some (89,true)),.bin .eql (.s 90) (.s 92)⟩,
 ⟨some 94,none,.pick (.s 89) (.s 93) (.c (bo false))⟩,
 ⟨some 8,none,.mv false (.s 94)⟩]) (
 .ret))))))
def z0b:z2p:=
 {n:=4,wr:=[],res:=[.t 8],body:=
 .seq (
 .region [4,5,6] [.norm [4,5,6]] [
 ⟨some 4,none,.box 4 (some 4) false (.s 0)⟩,
 ⟨some 5,none,.box 5 (some 2) false (.s 1)⟩,
 ⟨some 6,none,.box 6 (some 2) false (.s 2)⟩,
 ⟨some 8,none,.mv false (.c (bo false))⟩]) (
 .seq (
 .region [4,5,6,9] [] [
 ⟨some 18,none,.call 280 [] []⟩,
 ⟨some 9,none,.mv false (.s 18)⟩]) (
 .seq (
 .seq (
 .region [4,5,6,9,27] [.norm [4,5,6]] [
 ⟨some 19,none,.load (some 4) (some 4) false (.s 4)⟩,
 ⟨some 20,none,.load (some 2) (some 5) false (.s 5)⟩,
 ⟨some 21,none,.call 281 [(.s 19),(.s 20)] []⟩,
 ⟨some 22,none,.un .not (.s 21)⟩,
 ⟨some 23,none,.mv false (.s 22)⟩,
 ⟨some 24,(some (23,false)),.mv false (.s 3)⟩,
 ⟨some 25,(some (23,false)),.len false (.s 24)⟩,
 ⟨some 26,(some (23,false)),.bin .gtr (.s 25) (.c (i64 10))⟩,
 ⟨some 27,none,.pick (.s 23) (.c (bo true)) (.s 26)⟩]) (
 .cond (.s 27) (
 .seq (
 .region [8] [] [
 ⟨some 28,none,.mv false (.s 9)⟩,
 ⟨some 8,none,.mv false (.s 28)⟩]) (
 .ret)) (
 .ghost (.keep [4,5,6,9]) .skip))) (
 z0n)))}

def z7y:z9a:=
 .seq (
 .region [3,5,7,8,9,11,16,20,23,25,26] [.norm [1,2,3,4,13,14,17,18,21,22,26]] [
 ⟨some 115,none,.fieldAddr 1 (.s 3)⟩,
 ⟨some 116,none,.load none (some 3) false (.s 115)⟩,
 ⟨some 117,none,.idxSl 9 (.s 116) (.c (i64 1))⟩,
 ⟨some 118,none,.load (some 9) none false (.s 117)⟩,
 ⟨some 26,none,.alloc 26 ([i64 0,i64 0]++[st []]++List.replicate 5 (i64 0)++[bo false])⟩,
 ⟨none,none,.store (some 9) 26 false (.s 26) (.s 118)⟩]) (
 .seq (
 .region [3,5,7,8,9,11,16,20,23,25,26] [.norm [1,2,3,4,13,14,17,18,21,22,26]] [
 ⟨some 119,none,.fieldAddr 2 (.s 26)⟩,
 ⟨none,none,.store none 26 false (.s 119) (.c (st []))⟩]) (
 .seq (
 .region [0] [.norm [1,2,3,4,13,14,17,18,21,22,26]] [
 ⟨some 120,none,.mv false (.s 5)⟩,
 ⟨some 121,none,.bin .eql (.s 120) (.c (i64 2))⟩,
 ⟨some 122,none,.mv false (.s 121)⟩,
 ⟨some 123,(some (122,true)),.mv false (.s 7)⟩,
 ⟨some 124,(some (122,true)),.bin .eql (.s 123) (.c (i64 2))⟩,
 ⟨some 125,none,.pick (.s 122) (.s 124) (.c (bo false))⟩,
 ⟨some 126,none,.mv false (.s 125)⟩,
 ⟨some 127,(some (126,true)),.mv false (.s 8)⟩,
 ⟨some 128,none,.pick (.s 126) (.s 127) (.c (bo false))⟩,
 ⟨some 129,none,.mv false (.s 128)⟩,
 ⟨some 130,(some (129,true)),.mv false (.s 9)⟩,
 ⟨some 131,(some (129,true)),.bin .eql (.s 130) (.c (i64 2))⟩,
 ⟨some 132,none,.pick (.s 129) (.s 131) (.c (bo false))⟩,
 ⟨some 133,none,.mv false (.s 132)⟩,
 ⟨some 134,(some (133,true)),.mv false (.s 11)⟩,
 ⟨some 135,(some (133,true)),.buildSl 1 2 [i64 0,i64 0] [(0,1,(.c (i64 1))),(1,1,(.c (i64 2)))]⟩,
 ⟨some 136,(some (133,true)),.call 267 [(.s 134),(.s 135)] []⟩,
 ⟨some 137,none,.pick (.s 133) (.s 136) (.c (bo false))⟩,
 ⟨some 138,none,.mv false (.s 137)⟩,
 ⟨some 139,(some (138,true)),.mv false (.s 16)⟩,
 ⟨some 140,(some (138,true)),.bin .eql (.s 139) (.c (i64 12))⟩,
 ⟨some 141,none,.pick (.s 138) (.s 140) (.c (bo false))⟩,
 ⟨some 142,none,.mv false (.s 141)⟩,
 ⟨some 143,(some (142,true)),.mv false (.s 20)⟩,
 ⟨some 144,(some (142,true)),.bin .eql (.s 143) (.c (i64 13))⟩,
 ⟨some 145,none,.pick (.s 142) (.s 144) (.c (bo false))⟩,
 ⟨some 146,none,.mv false (.s 145)⟩,
 ⟨some 147,(some (146,true)),.mv false (.s 23)⟩,
 ⟨some 148,(some (146,true)),.buildSl 1 1 [i64 0] [(0,1,(.c (i64 2)))]⟩,
 ⟨some 149,(some (146,true)),.call 267 [(.s 147),(.s 148)] []⟩,
 ⟨some 150,none,.pick (.s 146) (.s 149) (.c (bo false))⟩,
 ⟨some 151,none,.mv false (.s 150)⟩,
 ⟨some 152,(some (151,true)),.mv false (.s 25)⟩,
 ⟨some 153,(some (151,true)),.buildSl 1 1 [i64 0] [(0,1,(.c (i64 1)))]⟩,
 ⟨some 154,(some (151,true)),.call 267 [(.s 152),(.s 153)] []⟩,
 ⟨some 155,none,.pick (.s 151) (.s 154) (.c (bo false))⟩,
 ⟨some 156,none,.mv false (.s 155)⟩,
 ⟨some 157,(some (156,true)),.fieldAddr 1 (.s 3)⟩,
 ⟨some 158,(some (156,true)),.load none (some 3) false (.s 157)⟩,
 ⟨some 159,(some (156,true)),.idxSl 9 (.s 158) (.c (i64 0))⟩,
 ⟨some 160,(some (156,true)),.fieldAddr 3 (.s 159)⟩,
 ⟨some 161,(some (156,true)),.load none none false (.s 160)⟩,
 ⟨some 162,(some (156,true)),.bin .eql (.s 161) (.c (i64 16))⟩,
 ⟨some 163,none,.pick (.s 156) (.s 162) (.c (bo false))⟩,
 ⟨some 164,none,.mv false (.s 163)⟩,
 ⟨some 165,(some (164,true)),.fieldAddr 1 (.s 3)⟩,
 ⟨some 166,(some (164,true)),.load none (some 3) false (.s 165)⟩,
 ⟨some 167,(some (164,true)),.idxSl 9 (.s 166) (.c (i64 1))⟩,
 ⟨some 168,(some (164,true)),.fieldAddr 2 (.s 167)⟩,
 ⟨some 169,(some (164,true)),.load none none false (.s 168)⟩,
 ⟨some 170,(some (164,true)),.len true (.s 169)⟩,
 ⟨some 171,(some (164,true)),.bin .eql (.s 170) (.c (i64 32))⟩,
 ⟨some 172,none,.pick (.s 164) (.s 171) (.c (bo false))⟩,
 ⟨some 173,none,.mv false (.s 172)⟩,
 ⟨some 174,(some (173,true)),.load (some 9) (some 26) false (.s 26)⟩,
 ⟨some 175,(some (173,true)),.build ([i64 0,i64 0]++[st []]++List.replicate 5 (i64 0)++[bo false]) [(0,1,(.c (i64 2))),(3,1,(.c (i64 24))),(4,1,(.c (i64 30))),(5,1,(.c (i64 60))),(6,1,(.c (i64 2))),(7,1,(.c (i64 1)))]⟩,
 ⟨some 176,(some (173,true)),.eqF [.int .i64,.int .i64,.str,.int .i64,.int .i64,.int .i64,.int .i64,.int .i64,.bool] false (.s 174) (.s 175)⟩,
 ⟨some 177,none,.pick (.s 173) (.s 176) (.c (bo false))⟩,
 ⟨some 0,none,.mv false (.s 177)⟩]) (
 .ret)))
def z5f:z2p:=
 {n:=0,wr:=[],res:=[.t 0],body:=
 .seq (
 .region [] [] [
 ⟨some 0,none,.mv false (.c (bo false))⟩]) (
 .seq (
 .region [1] [.norm [1]] [
 ⟨some 27,none,.build [st [],i64 0,i64 0] [(0,1,(.c (st [97]))),(1,1,(.c (i64 25))),(2,1,(.c (i64 50)))]⟩,
 ⟨some 28,none,.buildSl 3 1 [st [],i64 0,i64 0] [(0,3,(.s 27))]⟩,
 ⟨some 29,none,.build [st [],.sl .plain none 0 [],.sl .plain none 0 [],.sl .plain none 0 []] [(1,1,(.s 28))]⟩,
 ⟨some 1,none,.alloc 1 [st [],.sl (.own 3) none 0 [],.sl (.own 3) none 0 [],.sl (.own 5) none 0 []]⟩,
 ⟨none,none,.store (some 4) 1 false (.s 1) (.s 29)⟩]) (
 .seq (
 .region [1,2] [.norm [1,2]] [
 ⟨some 30,none,.call 288 [(.c (u8 7))] []⟩,
 ⟨some 31,none,.build ([i64 0,i64 0]++[st []]++List.replicate 5 (i64 0)++[bo false]) [(0,1,(.c (i64 1))),(2,1,(.s 30)),(3,1,(.c (i64 24))),(4,1,(.c (i64 10))),(5,1,(.c (i64 40))),(6,1,(.c (i64 1)))]⟩,
 ⟨some 32,none,.buildSl 9 1 [i64 0,i64 0,st [],i64 0,i64 0,i64 0,i64 0,i64 0,bo false] [(0,9,(.s 31))]⟩,
 ⟨some 33,none,.build [i64 0,.sl .plain none 0 []] [(0,1,(.c (i64 2))),(1,1,(.s 32))]⟩,
 ⟨some 2,none,.alloc 2 [i64 0,.sl (.own 9) none 0 []]⟩,
 ⟨none,none,.store (some 2) 2 false (.s 2) (.s 33)⟩]) (
 .seq (
 .region [1,2,3,4,5,6] [.norm [1,2,3,4]] [
 ⟨some 35,none,.load (some 4) (some 1) false (.s 1)⟩,
 ⟨some 36,none,.load (some 2) (some 2) false (.s 2)⟩,
 ⟨some 37,none,.build [st []] [(0,1,(.c (st [115])))]⟩,
 ⟨some 38,none,.call 229 [(.s 35),(.s 36),(.s 37),(.c (i64 30)),(.c (i64 1))] []⟩,
 ⟨some 34,none,.mv false (.s 38)⟩,
 ⟨some 39,none,.extract 0 (.s 34)⟩,
 ⟨some 40,none,.extract 1 (.s 34)⟩,
 ⟨some 41,none,.extract 2 (.s 34)⟩,
 ⟨some 42,none,.extract 3 (.s 34)⟩,
 ⟨some 3,none,.alloc 3 [i64 0,.sl (.own 9) none 0 []]⟩,
 ⟨some 4,none,.alloc 4 [st []]⟩,
 ⟨none,none,.store (some 2) 3 false (.s 3) (.s 39)⟩,
 ⟨none,none,.store (some 1) 4 false (.s 4) (.s 40)⟩,
 ⟨some 5,none,.mv false (.s 41)⟩,
 ⟨some 6,none,.mv false (.s 42)⟩]) (
 .seq (
 .region [1,2,3,4,5,6,7,8] [.norm [1,2,3,4]] [
 ⟨some 44,none,.load (some 2) (some 3) false (.s 3)⟩,
 ⟨some 45,none,.call 233 [(.s 44),(.c (i64 1))] []⟩,
 ⟨some 43,none,.mv false (.s 45)⟩,
 ⟨some 46,none,.extract 0 (.s 43)⟩,
 ⟨some 47,none,.extract 1 (.s 43)⟩,
 ⟨some 7,none,.mv false (.s 46)⟩,
 ⟨some 8,none,.mv false (.s 47)⟩]) (
 .seq (
 .region [1,2,3,4,5,6,7,8,9,10] [.norm [1,2,3,4]] [
 ⟨some 49,none,.load (some 2) (some 3) false (.s 3)⟩,
 ⟨some 50,none,.call 235 [(.s 49),(.c (i64 1))] []⟩,
 ⟨some 48,none,.mv false (.s 50)⟩,
 ⟨some 51,none,.extract 0 (.s 48)⟩,
 ⟨some 52,none,.extract 1 (.s 48)⟩,
 ⟨some 9,none,.mv false (.s 51)⟩,
 ⟨some 10,none,.mv false (.s 52)⟩]) (
 .seq (
 .region [1,2,3,4,5,6,7,8,9,10,11,12] [.norm [1,2,3,4]] [
 ⟨some 54,none,.load (some 2) (some 3) false (.s 3)⟩,
 ⟨some 55,none,.call 234 [(.s 54),(.c (i64 1))] []⟩,
 ⟨some 53,none,.mv false (.s 55)⟩,
 ⟨some 56,none,.extract 0 (.s 53)⟩,
 ⟨some 57,none,.extract 1 (.s 53)⟩,
 ⟨some 11,none,.mv true (.s 56)⟩,
 ⟨some 12,none,.mv false (.s 57)⟩]) (
 .seq (
 .region [1,2,3,4,5,6,7,8,9,10,11,12,16] [.norm [1,2,3,4,13,14]] [
 ⟨some 59,none,.load (some 4) (some 1) false (.s 1)⟩,
 ⟨some 60,none,.load (some 2) (some 3) false (.s 3)⟩,
 ⟨some 61,none,.load (some 1) (some 4) false (.s 4)⟩,
 ⟨some 62,none,.call 229 [(.s 59),(.s 60),(.s 61),(.c (i64 30)),(.c (i64 1))] []⟩,
 ⟨some 58,none,.mv false (.s 62)⟩,
 ⟨some 63,none,.extract 0 (.s 58)⟩,
 ⟨some 64,none,.extract 1 (.s 58)⟩,
 ⟨some 65,none,.extract 2 (.s 58)⟩,
 ⟨some 66,none,.extract 3 (.s 58)⟩,
 ⟨some 13,none,.alloc 13 [i64 0,.sl (.own 9) none 0 []]⟩,
 ⟨some 14,none,.alloc 14 [st []]⟩,
 ⟨none,none,.store (some 2) 13 false (.s 13) (.s 63)⟩,
 ⟨none,none,.store (some 1) 14 false (.s 14) (.s 64)⟩,
 ⟨some 15,none,.mv false (.s 65)⟩,
 ⟨some 16,none,.mv false (.s 66)⟩]) (
 .seq (
 .region [1,2,3,5,6,7,8,9,10,11,12,16,20] [.norm [1,2,3,4,13,14,17,18]] [
 ⟨some 68,none,.load (some 4) (some 1) false (.s 1)⟩,
 ⟨some 69,none,.load (some 2) (some 2) false (.s 2)⟩,
 ⟨some 70,none,.load (some 1) (some 4) false (.s 4)⟩,
 ⟨some 71,none,.call 229 [(.s 68),(.s 69),(.s 70),(.c (i64 40)),(.c (i64 1))] []⟩,
 ⟨some 67,none,.mv false (.s 71)⟩,
 ⟨some 72,none,.extract 0 (.s 67)⟩,
 ⟨some 73,none,.extract 1 (.s 67)⟩,
 ⟨some 74,none,.extract 2 (.s 67)⟩,
 ⟨some 75,none,.extract 3 (.s 67)⟩,
 ⟨some 17,none,.alloc 17 [i64 0,.sl (.own 9) none 0 []]⟩,
 ⟨some 18,none,.alloc 18 [st []]⟩,
 ⟨none,none,.store (some 2) 17 false (.s 17) (.s 72)⟩,
 ⟨none,none,.store (some 1) 18 false (.s 18) (.s 73)⟩,
 ⟨some 19,none,.mv false (.s 74)⟩,
 ⟨some 20,none,.mv false (.s 75)⟩]) (
 .seq (
 .region [1,2,3,5,6,7,8,9,10,11,12,16,20,21,23,24] [.norm [1,2,3,4,13,14,17,18,21,22]] [
 ⟨some 77,none,.load (some 4) (some 1) false (.s 1)⟩,
 ⟨some 78,none,.load (some 2) (some 2) false (.s 2)⟩,
 ⟨some 79,none,.build [st []] [(0,1,(.c (st [115])))]⟩,
 ⟨some 80,none,.buildSl 1 1 [i64 0] [(0,1,(.c (i64 1)))]⟩,
 ⟨some 81,none,.call 238 [(.s 77),(.s 78),(.s 79),(.c (i64 30)),(.s 80)] []⟩,
 ⟨some 76,none,.mv false (.s 81)⟩,
 ⟨some 82,none,.extract 0 (.s 76)⟩,
 ⟨some 83,none,.extract 1 (.s 76)⟩,
 ⟨some 84,none,.extract 2 (.s 76)⟩,
 ⟨some 85,none,.extract 3 (.s 76)⟩,
 ⟨some 21,none,.alloc 21 [i64 0,.sl (.own 9) none 0 []]⟩,
 ⟨some 22,none,.alloc 22 [st []]⟩,
 ⟨none,none,.store (some 2) 21 false (.s 21) (.s 82)⟩,
 ⟨none,none,.store (some 1) 22 false (.s 22) (.s 83)⟩,
 ⟨some 23,none,.mv true (.s 84)⟩,
 ⟨some 24,none,.mv false (.s 85)⟩]) (
 .seq (
 .region [3,5,6,7,8,9,10,11,12,16,20,21,23,24,25] [.norm [1,2,3,4,13,14,17,18,21,22]] [
 ⟨some 86,none,.load (some 4) (some 1) false (.s 1)⟩,
 ⟨some 87,none,.load (some 2) (some 2) false (.s 2)⟩,
 ⟨some 88,none,.call 241 [(.s 86),(.s 87),(.c (i64 30)),(.c (i64 10))] []⟩,
 ⟨some 25,none,.mv true (.s 88)⟩]) (
 .seq (
 .seq (
 .region [3,5,7,8,9,11,16,20,23,25,114] [.norm [1,2,3,4,13,14,17,18,21,22]] [
 ⟨some 89,none,.mv false (.s 6)⟩,
 ⟨some 90,none,.bin .neq (.s 89) (.c (i64 0))⟩,
 ⟨some 91,none,.mv false (.s 90)⟩,
 ⟨some 92,(some (91,false)),.mv false (.s 10)⟩,
 ⟨some 93,(some (91,false)),.bin .neq (.s 92) (.c (i64 0))⟩,
 ⟨some 94,none,.pick (.s 91) (.c (bo true)) (.s 93)⟩,
 ⟨some 95,none,.mv false (.s 94)⟩,
 ⟨some 96,(some (95,false)),.mv false (.s 12)⟩,
 ⟨some 97,(some (95,false)),.bin .neq (.s 96) (.c (i64 0))⟩,
 ⟨some 98,none,.pick (.s 95) (.c (bo true)) (.s 97)⟩,
 ⟨some 99,none,.mv false (.s 98)⟩,
 ⟨some 100,(some (99,false)),.mv false (.s 24)⟩,
 ⟨some 101,(some (99,false)),.bin .neq (.s 100) (.c (i64 0))⟩,
 ⟨some 102,none,.pick (.s 99) (.c (bo true)) (.s 101)⟩,
 ⟨some 103,none,.mv false (.s 102)⟩,
 ⟨some 104,(some (103,false)),.fieldAddr 1 (.s 3)⟩,
 ⟨some 105,(some (103,false)),.load none (some 3) false (.s 104)⟩,
 ⟨some 106,(some (103,false)),.len false (.s 105)⟩,
 ⟨some 107,(some (103,false)),.bin .neq (.s 106) (.c (i64 2))⟩,
 ⟨some 108,none,.pick (.s 103) (.c (bo true)) (.s 107)⟩,
 ⟨some 109,none,.mv false (.s 108)⟩,
 ⟨some 110,(some (109,false)),.fieldAddr 1 (.s 21)⟩,
 ⟨some 111,(some (109,false)),.load none (some 21) false (.s 110)⟩,
 ⟨some 112,(some (109,false)),.len false (.s 111)⟩,
 ⟨some 113,(some (109,false)),.bin .neq (.s 112) (.c (i64 2))⟩,
 ⟨some 114,none,.pick (.s 109) (.c (bo true)) (.s 113)⟩]) (
 .cond (.s 114) (
 .seq (
 .region [0] [] [
 ⟨some 0,none,.mv false (.c (bo false))⟩]) (
 .ret)) (
 .ghost (.keep [3,5,7,8,9,11,16,20,23,25]) .skip))) (
 z7y))))))))))))}

def z2I:z9a:=
 .seq (
 .region [4] [.norm [2,3]] [
 ⟨some 14,none,.load (some 2) (some 3) false (.s 3)⟩,
 ⟨some 15,none,.call 274 [(.s 14)] []⟩,
 ⟨some 4,none,.mv false (.s 15)⟩]) (
 .ret)
def z2f:z2p:=
 {n:=2,wr:=[],res:=[.t 4],body:=
 .seq (
 .region [2,3] [.norm [2,3]] [
 ⟨some 2,none,.box 2 (some 4) false (.s 0)⟩,
 ⟨some 3,none,.box 3 (some 2) false (.s 1)⟩,
 ⟨some 4,none,.mv false (.c (bo false))⟩]) (
 .seq (
 .seq (
 .region [3,13] [.norm [2,3]] [
 ⟨some 5,none,.load (some 4) (some 2) false (.s 2)⟩,
 ⟨some 6,none,.call 278 [(.s 5)] []⟩,
 ⟨some 7,none,.un .not (.s 6)⟩,
 ⟨some 8,none,.mv false (.s 7)⟩,
 ⟨some 9,(some (8,false)),.fieldAddr 1 (.s 3)⟩,
 ⟨some 10,(some (8,false)),.load none (some 3) false (.s 9)⟩,
 ⟨some 11,(some (8,false)),.len false (.s 10)⟩,
 ⟨some 12,(some (8,false)),.bin .gtr (.s 11) (.c (i64 30))⟩,
 ⟨some 13,none,.pick (.s 8) (.c (bo true)) (.s 12)⟩]) (
 .cond (.s 13) (
 .seq (
 .region [4] [] [
 ⟨some 4,none,.mv false (.c (bo false))⟩]) (
 .ret)) (
 .ghost (.keep [3]) .skip))) (
 z2I))}

def z8z:z9a:=
 .seq (
 .block 1 (
 .region [3,4] [.norm [5]] [
 ⟨some 10,none,.mv false (.s 3)⟩,
 ⟨some 11,none,.mv false (.s 4)⟩,
 ⟨some 12,none,.mv false (.s 0)⟩,
 ⟨some 13,none,.idxSl 1 (.s 10) (.s 11)⟩,
 ⟨none,none,.store none 5 false (.s 13) (.s 12)⟩])) (
 .region [3,4] [] [
 ⟨some 8,none,.mv false (.s 4)⟩,
 ⟨some 9,none,.bin .add (.s 8) (.c (i64 1))⟩,
 ⟨some 4,none,.mv false (.s 9)⟩])
def z0t:z9a:=
 .seq (
 .seq (
 .region [3,4,7] [] [
 ⟨some 6,none,.mv false (.s 4)⟩,
 ⟨some 7,none,.bin .lss (.s 6) (.c (i64 32))⟩]) (
 .cond (.s 7) (
 .ghost (.keep [3,4]) .skip) (
 .ghost (.keep [3]) (.exit 0)))) (
 z8z)
def z1B:z9a:=
 .seq (
 .region [2] [] [
 ⟨some 14,none,.mv true (.s 3)⟩,
 ⟨some 15,none,.toStr (some 5) (.s 14)⟩,
 ⟨some 2,none,.mv false (.s 15)⟩]) (
 .ret)
def z0h:z2p:=
 {n:=1,wr:=[],res:=[.t 2],body:=
 .seq (
 .region [] [] [
 ⟨some 2,none,.mv false (.c (st []))⟩]) (
 .seq (
 .region [3] [.norm [5]] [
 ⟨some 5,none,.buildBx 5 1 32 (bys (z9m 32)) []⟩,
 ⟨some 3,none,.mv true (.s 5)⟩]) (
 .seq (
 .seq (
 .region [3,4] [] [
 ⟨some 4,none,.mv false (.c (i64 0))⟩]) (
 .block 0 (
 .loop z0t))) (
 z1B)))}

end Go.Abs
end
