/- Lemmas: an abstract interpreter, and what the functions compute. -/
import Derived.Test.YtkccmbjmlpnejaaDoorC
import Derived.Test.YtkccmbjmlpnejaaDoorT
import Derived.Test.YtkccmbjmlpnejaaDoorQ
import Derived.Test.YtkccmbjmlpnejaaDoorP
import Derived.Test.YtkccmbjmlpnejaaDoorD
set_option linter.unusedSimpArgs false
set_option linter.unusedVariables false
set_option linter.unusedSectionVars false
section
namespace Go.Abs
set_option maxRecDepth 100000
def z6d:z4a:=
 .region [3,4,5,7,8,9,10,11] [.norm [3,5,9,12]] [
 ⟨some 120,none,.mv false (.s 10)⟩,
 ⟨some 121,none,.mv false (.s 120)⟩,
 ⟨some 122,(some (121,false)),.load (some 24) (some 12) false (.s 12)⟩,
 ⟨some 123,(some (121,false)),.load (some 24) (some 9) false (.s 9)⟩,
 ⟨some 124,(some (121,false)),.eqF kM false (.s 122) (.s 123)⟩,
 ⟨some 125,none,.pick (.s 121) (.c (bo true)) (.s 124)⟩,
 ⟨some 10,none,.mv false (.s 125)⟩]
def z7d:z4a:=
 .seq (
 .block 5 (
 .seq (
 .region [3,4,5,7,8,9,10,11,12] [.norm [3,5,9,12]] [
 ⟨some 94,none,.fieldAddr 4 (.s 3)⟩,
 ⟨some 95,none,.load none (some 3) false (.s 94)⟩,
 ⟨some 96,none,.mv false (.s 11)⟩,
 ⟨some 97,none,.idxSl 24 (.s 95) (.s 96)⟩,
 ⟨some 98,none,.load (some 24) none false (.s 97)⟩,
 ⟨some 12,none,.alloc 12 (List.replicate 7 (i64 0)++[bo false]++bys (z4c 16))⟩,
 ⟨none,none,.store (some 24) 12 false (.s 12) (.s 98)⟩]) (
 .seq (
 .seq (
 .region [3,4,5,7,8,9,10,11,12,115] [.norm [3,5,9,12]] [
 ⟨some 99,none,.mv false (.s 0)⟩,
 ⟨some 100,none,.mv false (.s 4)⟩,
 ⟨some 101,none,.idxSl 30 (.s 99) (.s 100)⟩,
 ⟨some 102,none,.fieldAddr 1 (.s 101)⟩,
 ⟨some 103,none,.load none none false (.s 102)⟩,
 ⟨some 104,none,.bin .eql (.s 103) (.c (i64 13))⟩,
 ⟨some 105,none,.mv false (.s 104)⟩,
 ⟨some 106,(some (105,true)),.fieldAddr 0 (.s 12)⟩,
 ⟨some 107,(some (105,true)),.load none (some 12) false (.s 106)⟩,
 ⟨some 108,(some (105,true)),.mv false (.s 0)⟩,
 ⟨some 109,(some (105,true)),.mv false (.s 4)⟩,
 ⟨some 110,(some (105,true)),.idxSl 30 (.s 108) (.s 109)⟩,
 ⟨some 111,(some (105,true)),.fieldAddr 4 (.s 110)⟩,
 ⟨some 112,(some (105,true)),.fieldAddr 1 (.s 111)⟩,
 ⟨some 113,(some (105,true)),.load none none false (.s 112)⟩,
 ⟨some 114,(some (105,true)),.bin .eql (.s 107) (.s 113)⟩,
 ⟨some 115,none,.pick (.s 105) (.s 114) (.c (bo false))⟩]) (
 .cond (.s 115) (
 .region [3,4,5,7,8,9,10,11,12] [.norm [3,5,9,12]] [
 ⟨some 116,none,.fieldAddr 2 (.s 12)⟩,
 ⟨some 117,none,.load none (some 12) false (.s 116)⟩,
 ⟨some 118,none,.bin .and (.s 117) (.c (i64 176))⟩,
 ⟨some 119,none,.fieldAddr 2 (.s 12)⟩,
 ⟨none,none,.store none 12 false (.s 119) (.s 118)⟩]) (
 .ghost (.keep [3,4,5,7,8,9,10,11,12]) .skip))) (
 z6d)))) (
 .region [3,4,5,7,8,9,10,11] [.drop [12]] [
 ⟨some 92,none,.mv false (.s 11)⟩,
 ⟨some 93,none,.bin .add (.s 92) (.c (i64 1))⟩,
 ⟨some 11,none,.mv false (.s 93)⟩])
def z3c:z4a:=
 .seq (
 .seq (
 .region [3,4,5,7,8,9,10,11,91] [.norm [3,5,9]] [
 ⟨some 87,none,.mv false (.s 11)⟩,
 ⟨some 88,none,.fieldAddr 4 (.s 3)⟩,
 ⟨some 89,none,.load none (some 3) false (.s 88)⟩,
 ⟨some 90,none,.len false (.s 89)⟩,
 ⟨some 91,none,.bin .lss (.s 87) (.s 90)⟩]) (
 .cond (.s 91) (
 .ghost (.keep [3,4,5,7,8,9,10,11]) .skip) (
 .ghost (.keep [3,4,5,7,8,9,10]) (.exit 4)))) (
 z7d)
def z5h:z4a:=
 .seq (
 .block 7 (
 .region [3,4,5,7,8,9,10,13] [.norm [3,5,9,12]] [
 ⟨some 136,none,.mv false (.s 10)⟩,
 ⟨some 137,none,.mv false (.s 136)⟩,
 ⟨some 138,(some (137,false)),.mv false (.s 0)⟩,
 ⟨some 139,(some (137,false)),.mv false (.s 4)⟩,
 ⟨some 140,(some (137,false)),.idxSl 30 (.s 138) (.s 139)⟩,
 ⟨some 141,(some (137,false)),.fieldAddr 28 (.s 140)⟩,
 ⟨some 142,(some (137,false)),.load none none false (.s 141)⟩,
 ⟨some 143,(some (137,false)),.mv false (.s 13)⟩,
 ⟨some 144,(some (137,false)),.idxSl 24 (.s 142) (.s 143)⟩,
 ⟨some 145,(some (137,false)),.load (some 24) none false (.s 144)⟩,
 ⟨some 146,(some (137,false)),.load (some 24) (some 9) false (.s 9)⟩,
 ⟨some 147,(some (137,false)),.eqF kM false (.s 145) (.s 146)⟩,
 ⟨some 148,none,.pick (.s 137) (.c (bo true)) (.s 147)⟩,
 ⟨some 10,none,.mv false (.s 148)⟩])) (
 .region [3,4,5,7,8,9,10,13] [] [
 ⟨some 134,none,.mv false (.s 13)⟩,
 ⟨some 135,none,.bin .add (.s 134) (.c (i64 1))⟩,
 ⟨some 13,none,.mv false (.s 135)⟩])
def z8c:z4a:=
 .seq (
 .seq (
 .region [3,4,5,7,8,9,10,13,133] [.norm [3,5,9,12]] [
 ⟨some 126,none,.mv false (.s 13)⟩,
 ⟨some 127,none,.mv false (.s 0)⟩,
 ⟨some 128,none,.mv false (.s 4)⟩,
 ⟨some 129,none,.idxSl 30 (.s 127) (.s 128)⟩,
 ⟨some 130,none,.fieldAddr 28 (.s 129)⟩,
 ⟨some 131,none,.load none none false (.s 130)⟩,
 ⟨some 132,none,.len false (.s 131)⟩,
 ⟨some 133,none,.bin .lss (.s 126) (.s 132)⟩]) (
 .cond (.s 133) (
 .ghost (.keep [3,4,5,7,8,9,10,13]) .skip) (
 .ghost (.keep [3,4,5,7,8,9,10]) (.exit 6)))) (
 z5h)
def z3u:z4a:=
 .seq (
 .seq (
 .region [3,4,5,8,9,163] [.norm [3,5,9,12]] [
 ⟨some 149,none,.mv false (.s 10)⟩,
 ⟨some 150,none,.un .not (.s 149)⟩,
 ⟨some 151,none,.mv false (.s 150)⟩,
 ⟨some 152,(some (151,false)),.fieldAddr 0 (.s 9)⟩,
 ⟨some 153,(some (151,false)),.load none (some 9) false (.s 152)⟩,
 ⟨some 154,(some (151,false)),.mv false (.s 7)⟩,
 ⟨some 155,(some (151,false)),.bin .leq (.s 153) (.s 154)⟩,
 ⟨some 156,none,.pick (.s 151) (.c (bo true)) (.s 155)⟩,
 ⟨some 157,none,.mv false (.s 156)⟩,
 ⟨some 158,(some (157,false)),.fieldAddr 0 (.s 9)⟩,
 ⟨some 159,(some (157,false)),.load none (some 9) false (.s 158)⟩,
 ⟨some 160,(some (157,false)),.fieldAddr 3 (.s 5)⟩,
 ⟨some 161,(some (157,false)),.load none (some 5) false (.s 160)⟩,
 ⟨some 162,(some (157,false)),.bin .geq (.s 159) (.s 161)⟩,
 ⟨some 163,none,.pick (.s 157) (.c (bo true)) (.s 162)⟩]) (
 .cond (.s 163) (
 .seq (
 .region [2] [] [
 ⟨some 2,none,.mv false (.c (bo false))⟩]) (
 .ret)) (
 .ghost (.keep [3,4,5,8,9]) .skip))) (
 .region [3,4,5,7,8] [.norm [3,5,9,12]] [
 ⟨some 164,none,.fieldAddr 0 (.s 9)⟩,
 ⟨some 165,none,.load none (some 9) false (.s 164)⟩,
 ⟨some 7,none,.mv false (.s 165)⟩])
def z2w:z4a:=
 .seq (
 .seq (
 .region [3,4,5,7,8,9,10,13] [] [
 ⟨some 13,none,.mv false (.c (i64 0))⟩]) (
 .block 6 (
 .loop z8c))) (
 z3u)
def z9v:z4a:=
 .seq (
 .block 3 (
 .seq (
 .region [3,4,5,7,8,9] [.norm [3,5,9]] [
 ⟨some 82,none,.fieldAddr 4 (.s 5)⟩,
 ⟨some 83,none,.load none (some 5) false (.s 82)⟩,
 ⟨some 84,none,.mv false (.s 8)⟩,
 ⟨some 85,none,.idxSl 24 (.s 83) (.s 84)⟩,
 ⟨some 86,none,.load (some 24) none false (.s 85)⟩,
 ⟨some 9,none,.alloc 9 (List.replicate 7 (i64 0)++[bo false]++bys (z4c 16))⟩,
 ⟨none,none,.store (some 24) 9 false (.s 9) (.s 86)⟩]) (
 .seq (
 .region [3,4,5,7,8,9,10] [] [
 ⟨some 10,none,.mv false (.c (bo false))⟩]) (
 .seq (
 .seq (
 .region [3,4,5,7,8,9,10,11] [] [
 ⟨some 11,none,.mv false (.c (i64 0))⟩]) (
 .block 4 (
 .loop z3c))) (
 z2w))))) (
 .region [3,4,5,7,8] [.drop [9,12]] [
 ⟨some 80,none,.mv false (.s 8)⟩,
 ⟨some 81,none,.bin .add (.s 80) (.c (i64 1))⟩,
 ⟨some 8,none,.mv false (.s 81)⟩])
def z1k:z4a:=
 .seq (
 .seq (
 .region [3,4,5,7,8,79] [.norm [3,5]] [
 ⟨some 75,none,.mv false (.s 8)⟩,
 ⟨some 76,none,.fieldAddr 4 (.s 5)⟩,
 ⟨some 77,none,.load none (some 5) false (.s 76)⟩,
 ⟨some 78,none,.len false (.s 77)⟩,
 ⟨some 79,none,.bin .lss (.s 75) (.s 78)⟩]) (
 .cond (.s 79) (
 .ghost (.keep [3,4,5,7,8]) .skip) (
 .ghost (.keep [3,4,5]) (.exit 2)))) (
 z9v)
def z3n:z4a:=
 .seq (
 .block 11 (
 .seq (
 .region [3,4,5,14,15,208] [.norm [3,5,9,12]] [
 ⟨some 183,none,.fieldAddr 4 (.s 5)⟩,
 ⟨some 184,none,.load none (some 5) false (.s 183)⟩,
 ⟨some 185,none,.mv false (.s 15)⟩,
 ⟨some 186,none,.idxSl 24 (.s 184) (.s 185)⟩,
 ⟨some 187,none,.fieldAddr 0 (.s 186)⟩,
 ⟨some 188,none,.load none none false (.s 187)⟩,
 ⟨some 189,none,.mv false (.s 0)⟩,
 ⟨some 190,none,.mv false (.s 4)⟩,
 ⟨some 191,none,.idxSl 30 (.s 189) (.s 190)⟩,
 ⟨some 192,none,.fieldAddr 29 (.s 191)⟩,
 ⟨some 193,none,.load none none false (.s 192)⟩,
 ⟨some 194,none,.mv false (.s 14)⟩,
 ⟨some 195,none,.idxSl 1 (.s 193) (.s 194)⟩,
 ⟨some 196,none,.load none none false (.s 195)⟩,
 ⟨some 197,none,.bin .eql (.s 188) (.s 196)⟩,
 ⟨some 198,none,.mv false (.s 197)⟩,
 ⟨some 199,(some (198,true)),.fieldAddr 4 (.s 5)⟩,
 ⟨some 200,(some (198,true)),.load none (some 5) false (.s 199)⟩,
 ⟨some 201,(some (198,true)),.mv false (.s 15)⟩,
 ⟨some 202,(some (198,true)),.idxSl 24 (.s 200) (.s 201)⟩,
 ⟨some 203,(some (198,true)),.fieldAddr 0 (.s 202)⟩,
 ⟨some 204,(some (198,true)),.load none none false (.s 203)⟩,
 ⟨some 205,(some (198,true)),.fieldAddr 3 (.s 3)⟩,
 ⟨some 206,(some (198,true)),.load none (some 3) false (.s 205)⟩,
 ⟨some 207,(some (198,true)),.bin .lss (.s 204) (.s 206)⟩,
 ⟨some 208,none,.pick (.s 198) (.s 207) (.c (bo false))⟩]) (
 .cond (.s 208) (
 .seq (
 .region [2] [] [
 ⟨some 2,none,.mv false (.c (bo false))⟩]) (
 .ret)) (
 .ghost (.keep [3,4,5,14,15]) .skip)))) (
 .region [3,4,5,14,15] [] [
 ⟨some 181,none,.mv false (.s 15)⟩,
 ⟨some 182,none,.bin .add (.s 181) (.c (i64 1))⟩,
 ⟨some 15,none,.mv false (.s 182)⟩])
def z3h:z4a:=
 .seq (
 .seq (
 .region [3,4,5,14,15,180] [.norm [3,5,9,12]] [
 ⟨some 176,none,.mv false (.s 15)⟩,
 ⟨some 177,none,.fieldAddr 4 (.s 5)⟩,
 ⟨some 178,none,.load none (some 5) false (.s 177)⟩,
 ⟨some 179,none,.len false (.s 178)⟩,
 ⟨some 180,none,.bin .lss (.s 176) (.s 179)⟩]) (
 .cond (.s 180) (
 .ghost (.keep [3,4,5,14,15]) .skip) (
 .ghost (.keep [3,4,5,14]) (.exit 10)))) (
 z3n)
def z5n:z4a:=
 .seq (
 .block 9 (
 .seq (
 .region [3,4,5,14,15] [] [
 ⟨some 15,none,.mv false (.c (i64 0))⟩]) (
 .block 10 (
 .loop z3h)))) (
 .region [3,4,5,14] [] [
 ⟨some 174,none,.mv false (.s 14)⟩,
 ⟨some 175,none,.bin .add (.s 174) (.c (i64 1))⟩,
 ⟨some 14,none,.mv false (.s 175)⟩])
def z5f:z4a:=
 .seq (
 .seq (
 .region [3,4,5,14,173] [.norm [3,5,9,12]] [
 ⟨some 166,none,.mv false (.s 14)⟩,
 ⟨some 167,none,.mv false (.s 0)⟩,
 ⟨some 168,none,.mv false (.s 4)⟩,
 ⟨some 169,none,.idxSl 30 (.s 167) (.s 168)⟩,
 ⟨some 170,none,.fieldAddr 29 (.s 169)⟩,
 ⟨some 171,none,.load none none false (.s 170)⟩,
 ⟨some 172,none,.len false (.s 171)⟩,
 ⟨some 173,none,.bin .lss (.s 166) (.s 172)⟩]) (
 .cond (.s 173) (
 .ghost (.keep [3,4,5,14]) .skip) (
 .ghost (.keep [3,4,5]) (.exit 8)))) (
 z5n)
def z6u:z4a:=
 .seq (
 .seq (
 .region [3,4,5,14] [] [
 ⟨some 14,none,.mv false (.c (i64 0))⟩]) (
 .block 8 (
 .loop z5f))) (
 .region [3,4] [.norm [3,5,9,12]] [
 ⟨some 209,none,.load (some 5) (some 5) false (.s 5)⟩,
 ⟨none,none,.store (some 5) 3 false (.s 3) (.s 209)⟩])
def z2x:z4a:=
 .seq (
 .region [3,4,5,7] [] [
 ⟨some 7,none,.mv false (.c (i64 0))⟩]) (
 .seq (
 .seq (
 .region [3,4,5,7,8] [] [
 ⟨some 8,none,.mv false (.c (i64 0))⟩]) (
 .block 2 (
 .loop z1k))) (
 z6u))
def z4x:z4a:=
 .seq (
 .seq (
 .region [3,4,5,74] [.norm [3,5]] [
 ⟨some 45,none,.fieldAddr 3 (.s 5)⟩,
 ⟨some 46,none,.load none (some 5) false (.s 45)⟩,
 ⟨some 47,none,.fieldAddr 3 (.s 3)⟩,
 ⟨some 48,none,.load none (some 3) false (.s 47)⟩,
 ⟨some 49,none,.bin .lss (.s 46) (.s 48)⟩,
 ⟨some 50,none,.mv false (.s 49)⟩,
 ⟨some 51,(some (50,false)),.fieldAddr 0 (.s 5)⟩,
 ⟨some 52,(some (50,false)),.load none (some 5) false (.s 51)⟩,
 ⟨some 53,(some (50,false)),.fieldAddr 0 (.s 3)⟩,
 ⟨some 54,(some (50,false)),.load none (some 3) false (.s 53)⟩,
 ⟨some 55,(some (50,false)),.bin .lss (.s 52) (.s 54)⟩,
 ⟨some 56,none,.pick (.s 50) (.c (bo true)) (.s 55)⟩,
 ⟨some 57,none,.mv false (.s 56)⟩,
 ⟨some 58,(some (57,false)),.fieldAddr 2 (.s 5)⟩,
 ⟨some 59,(some (57,false)),.load none (some 5) false (.s 58)⟩,
 ⟨some 60,(some (57,false)),.fieldAddr 2 (.s 3)⟩,
 ⟨some 61,(some (57,false)),.load none (some 3) false (.s 60)⟩,
 ⟨some 62,(some (57,false)),.bin .add (.s 61) (.c (i64 1))⟩,
 ⟨some 63,(some (57,false)),.bin .neq (.s 59) (.s 62)⟩,
 ⟨some 64,none,.pick (.s 57) (.c (bo true)) (.s 63)⟩,
 ⟨some 65,none,.mv false (.s 64)⟩,
 ⟨some 66,(some (65,false)),.fieldAddr 1 (.s 5)⟩,
 ⟨some 67,(some (65,false)),.load none (some 5) false (.s 66)⟩,
 ⟨some 68,(some (65,false)),.mv false (.s 0)⟩,
 ⟨some 69,(some (65,false)),.mv false (.s 4)⟩,
 ⟨some 70,(some (65,false)),.idxSl 30 (.s 68) (.s 69)⟩,
 ⟨some 71,(some (65,false)),.fieldAddr 3 (.s 70)⟩,
 ⟨some 72,(some (65,false)),.load none none false (.s 71)⟩,
 ⟨some 73,(some (65,false)),.bin .neq (.s 67) (.s 72)⟩,
 ⟨some 74,none,.pick (.s 65) (.c (bo true)) (.s 73)⟩]) (
 .cond (.s 74) (
 .seq (
 .region [2] [] [
 ⟨some 2,none,.mv false (.c (bo false))⟩]) (
 .ret)) (
 .ghost (.keep [3,4,5]) .skip))) (
 z2x)
def z8n:z4a:=
 .seq (
 .region [3,4,5,6] [.norm [3,5]] [
 ⟨some 35,none,.load (some 5) (some 3) false (.s 3)⟩,
 ⟨some 36,none,.mv false (.s 0)⟩,
 ⟨some 37,none,.mv false (.s 4)⟩,
 ⟨some 38,none,.idxSl 30 (.s 36) (.s 37)⟩,
 ⟨some 39,none,.load (some 30) none false (.s 38)⟩,
 ⟨some 40,none,.call 310 [(.s 35),(.s 39)] []⟩,
 ⟨some 34,none,.mv false (.s 40)⟩,
 ⟨some 41,none,.extract 0 (.s 34)⟩,
 ⟨some 42,none,.extract 1 (.s 34)⟩,
 ⟨some 5,none,.alloc 5 ([i64 0,i64 0,i64 0,i64 0]++[.sl (.own 24) none 0 []])⟩,
 ⟨none,none,.store (some 5) 5 false (.s 5) (.s 41)⟩,
 ⟨some 6,none,.mv false (.s 42)⟩]) (
 .seq (
 .seq (
 .region [3,4,5,44] [] [
 ⟨some 43,none,.mv false (.s 6)⟩,
 ⟨some 44,none,.bin .neq (.s 43) (.c (i64 0))⟩]) (
 .cond (.s 44) (
 .ghost (.keep [3,4]) (.exit 1)) (
 .ghost (.keep [3,4,5]) .skip))) (
 z4x))
def z2k:z4a:=
 .seq (
 .block 1 (
 .seq (
 .seq (
 .region [3,4,32] [.norm [3]] [
 ⟨some 27,none,.mv false (.s 0)⟩,
 ⟨some 28,none,.mv false (.s 4)⟩,
 ⟨some 29,none,.idxSl 30 (.s 27) (.s 28)⟩,
 ⟨some 30,none,.load (some 30) none false (.s 29)⟩,
 ⟨some 31,none,.call 341 [(.s 30)] []⟩,
 ⟨some 32,none,.un .not (.s 31)⟩]) (
 .cond (.s 32) (
 .seq (
 .region [2] [] [
 ⟨some 33,none,.call 342 [] []⟩,
 ⟨some 2,none,.mv false (.s 33)⟩]) (
 .ret)) (
 .ghost (.keep [3,4]) .skip))) (
 z8n))) (
 .region [3,4] [.drop [5,9,12]] [
 ⟨some 25,none,.mv false (.s 4)⟩,
 ⟨some 26,none,.bin .add (.s 25) (.c (i64 1))⟩,
 ⟨some 4,none,.mv false (.s 26)⟩])
def z4h:z4a:=
 .seq (
 .seq (
 .region [3,4,24] [] [
 ⟨some 21,none,.mv false (.s 4)⟩,
 ⟨some 22,none,.mv false (.s 0)⟩,
 ⟨some 23,none,.len false (.s 22)⟩,
 ⟨some 24,none,.bin .lss (.s 21) (.s 23)⟩]) (
 .cond (.s 24) (
 .ghost (.keep [3,4]) .skip) (
 .ghost (.keep []) (.exit 0)))) (
 z2k)
def z9t:z4a:=
 .seq (
 .region [2] [] [
 ⟨some 210,none,.call 342 [] []⟩,
 ⟨some 2,none,.mv false (.s 210)⟩]) (
 .ret)
def z7w:z4a:=
 .seq (
 .region [3] [.norm [3]] [
 ⟨some 20,none,.call 304 [] []⟩,
 ⟨some 3,none,.alloc 3 ([i64 0,i64 0,i64 0,i64 0]++[.sl (.own 24) none 0 []])⟩,
 ⟨none,none,.store (some 5) 3 false (.s 3) (.s 20)⟩]) (
 .seq (
 .seq (
 .region [3,4] [] [
 ⟨some 4,none,.mv false (.c (i64 0))⟩]) (
 .block 0 (
 .loop z4h))) (
 z9t))
def z0d:z2t:=
 {n:=1,wr:=[],res:=[.t 2],body:=
 .seq (
 .region [] [] [
 ⟨some 2,none,.mv false (.c (bo false))⟩]) (
 .seq (
 .seq (
 .region [18] [] [
 ⟨some 16,none,.mv false (.s 0)⟩,
 ⟨some 17,none,.len false (.s 16)⟩,
 ⟨some 18,none,.bin .gtr (.s 17) (.c (i64 30))⟩]) (
 .cond (.s 18) (
 .seq (
 .region [2] [] [
 ⟨some 19,none,.call 342 [] []⟩,
 ⟨some 2,none,.mv false (.s 19)⟩]) (
 .ret)) (
 .ghost (.keep []) .skip))) (
 z7w))}

def z0e:z2t:=
 {n:=1,wr:=[],res:=[.t 2],body:=
 .seq (
 .region [1] [.norm [1]] [
 ⟨some 1,none,.box 1 (some 30) false (.s 0)⟩,
 ⟨some 2,none,.mv false (.c (bo false))⟩]) (
 .seq (
 .region [2] [.norm [1]] [
 ⟨some 3,none,.fieldAddr 28 (.s 1)⟩,
 ⟨some 4,none,.load none (some 1) false (.s 3)⟩,
 ⟨some 5,none,.len false (.s 4)⟩,
 ⟨some 6,none,.bin .leq (.s 5) (.c (i64 40))⟩,
 ⟨some 7,none,.mv false (.s 6)⟩,
 ⟨some 8,(some (7,true)),.fieldAddr 29 (.s 1)⟩,
 ⟨some 9,(some (7,true)),.load none (some 1) false (.s 8)⟩,
 ⟨some 10,(some (7,true)),.len false (.s 9)⟩,
 ⟨some 11,(some (7,true)),.bin .leq (.s 10) (.c (i64 40))⟩,
 ⟨some 12,none,.pick (.s 7) (.s 11) (.c (bo false))⟩,
 ⟨some 13,none,.mv false (.s 12)⟩,
 ⟨some 14,(some (13,true)),.fieldAddr 4 (.s 1)⟩,
 ⟨some 15,(some (13,true)),.fieldAddr 7 (.s 14)⟩,
 ⟨some 16,(some (13,true)),.load none (some 1) false (.s 15)⟩,
 ⟨some 17,(some (13,true)),.len false (.s 16)⟩,
 ⟨some 18,(some (13,true)),.bin .leq (.s 17) (.c (i64 40))⟩,
 ⟨some 19,none,.pick (.s 13) (.s 18) (.c (bo false))⟩,
 ⟨some 20,none,.mv false (.s 19)⟩,
 ⟨some 21,(some (20,true)),.fieldAddr 4 (.s 1)⟩,
 ⟨some 22,(some (20,true)),.fieldAddr 6 (.s 21)⟩,
 ⟨some 23,(some (20,true)),.load none (some 1) false (.s 22)⟩,
 ⟨some 24,(some (20,true)),.len true (.s 23)⟩,
 ⟨some 25,(some (20,true)),.bin .leq (.s 24) (.c (i64 500))⟩,
 ⟨some 26,none,.pick (.s 20) (.s 25) (.c (bo false))⟩,
 ⟨some 2,none,.mv false (.s 26)⟩]) (
 .ret))}

end Go.Abs
end

section
namespace Go.Abs
set_option maxRecDepth 100000
def z7Ta (x:z9o):Bool:=decide (x.made.length≤40)&&decide (x.gone.length≤40)&&decide (x.cmd.list.length≤40)&&decide (x.cmd.data.length≤500)
def z3Ra:z5a:=⟨fun ds=>∃(nc nm ng:Option Bool) (x:z9o),x.ok∧ds=[.agg (z5l nc nm ng x)],fun ds=>bo (z7Ta (z8Ma (gCs (nth ds 0))))⟩
theorem z2zb {nc nm ng:Option Bool} {x:z9o} (h:x.ok):z3Ra.pre [.agg (z5l nc nm ng x)]=True:=eq_true ⟨nc,nm,ng,x,h,rfl⟩
theorem z1Na {nc nm ng:Option Bool} {x:z9o} (h:x.ok):z3Ra.post [.agg (z5l nc nm ng x)]=bo (z7Ta x):=by
 show bo (z7Ta (z8Ma (z5l nc nm ng x)))=_
 rw[z4Pa h.2.2.2.2.2.1 (z2c h.2.2.2.2.2.2.1)]
theorem z06a {x:z9o} (h:x.ok) (hf:z7Ta x=true):x.small:=by
 simp only[z7Ta,Bool.and_eq_true,decide_eq_true_eq] at hf
 obtain⟨⟨⟨h1,h2⟩,h3⟩,h4⟩:=hf
 exact⟨h,⟨h.2.2.2.2.1,by omega,by omega⟩,by omega,by omega⟩
theorem z14b (E:Env):∀ds,z3Ra.pre ds→ds.length=z0e.n∧awp E z0e.body (z1A z0e.res (z3Ra.post ds)) (z9c z0e.wr ds):=by
 rintro _ ⟨nc,nm,ng,x,hx,rfl⟩
 rw[z1Na hx]
 have hd:=hx.2.2.2.2.2.1
 have hlen:=z8d (nc:=nc) (nm:=nm) (ng:=ng) hd
 have a7:hdA ((z5l nc nm ng x).drop 11)= .sl .plain nc x.cmd.list.length (z4j x.cmd.list):=rfl
 have a6:hdA ((z5l nc nm ng x).drop 10)=st x.cmd.data:=rfl
 have a28:hdA ((z5l nc nm ng x).drop 28)= .sl .plain nm x.made.length (z6b x.made):=z1ma hd
 have a29:hdA ((z5l nc nm ng x).drop 29)= .sl .plain ng x.gone.length (z4j x.gone):=z1na hd
 by_cases h1:x.made.length≤40
 ·have i1:(x.made.length:Int)≤40:=by omega
  by_cases h2:x.gone.length≤40
  ·have i2:(x.gone.length:Int)≤40:=by omega
   by_cases h3:x.cmd.list.length≤40
   ·have i3:(x.cmd.list.length:Int)≤40:=by omega
    by_cases h4:x.cmd.data.length≤500
    ·have i4:(x.cmd.data.length:Int)≤500:=by omega
     simp(maxSteps:=1000000) (disch:=first|omega|(simp;done)|(simp;omega)) [z9a,z1a,z0a,z0e,hlen,a6,a7,a28,a29,h1,h2,h3,h4,i1,i2,i3,i4,z7Ta]
    ·have i4:¬(x.cmd.data.length:Int)≤500:=by omega
     simp(maxSteps:=1000000) (disch:=first|omega|(simp;done)|(simp;omega)) [z9a,z1a,z0a,z0e,hlen,a6,a7,a28,a29,h1,h2,h3,h4,i1,i2,i3,i4,z7Ta]
   ·have i3:¬(x.cmd.list.length:Int)≤40:=by omega
    simp(maxSteps:=1000000) (disch:=first|omega|(simp;done)|(simp;omega)) [z9a,z1a,z0a,z0e,hlen,a6,a7,a28,a29,h1,h2,h3,i1,i2,i3,z7Ta]
  ·have i2:¬(x.gone.length:Int)≤40:=by omega
   simp(maxSteps:=1000000) (disch:=first|omega|(simp;done)|(simp;omega)) [z9a,z1a,z0a,z0e,hlen,a6,a7,a28,a29,h1,h2,i1,i2,z7Ta]
 ·have i1:¬(x.made.length:Int)≤40:=by omega
  simp(maxSteps:=1000000) (disch:=first|omega|(simp;done)|(simp;omega)) [z9a,z1a,z0a,z0e,hlen,a6,a7,a28,a29,h1,i1,z7Ta]
end Go.Abs
end

section
namespace Go.Abs
set_option maxRecDepth 100000
def z6F:List z1d:=
 [
  ⟨(some 50),none,.load (some 8) (some 1) false (.s 1)⟩,
  ⟨(some 51),none,.call 289 [(.s 50)] []⟩,
  ⟨(some 52),none,.field none 6 (.s 51)⟩,
  ⟨(some 53),none,.bin .eql (.s 52) (.c (st []))⟩,
  ⟨(some 54),none,.mv false (.s 53)⟩]
def z6E:List z1d:=
 [
  ⟨(some 55),(some (54,true)),.build [i64 0,i64 0,i64 0,i64 0,i64 0,i64 0,st [],.sl .plain none 0 []] [(0,1,(.c (i64 17))),(6,1,(.c (st [120])))]⟩,
  ⟨(some 56),(some (54,true)),.call 289 [(.s 55)] []⟩,
  ⟨(some 57),(some (54,true)),.field none 6 (.s 56)⟩,
  ⟨(some 58),(some (54,true)),.bin .eql (.s 57) (.c (st [120]))⟩,
  ⟨(some 59),none,.pick (.s 54) (.s 58) (.c (bo false))⟩,
  ⟨(some 60),none,.mv false (.s 59)⟩]
def z7E:List z1d:=
 [
  ⟨(some 61),(some (60,true)),.load (some 30) (some 3) false (.s 3)⟩,
  ⟨(some 62),(some (60,true)),.call 300 [(.s 61)] []⟩,
  ⟨(some 63),none,.pick (.s 60) (.s 62) (.c (bo false))⟩,
  ⟨(some 64),none,.mv false (.s 63)⟩]
def z7F:List z1d:=
 [
  ⟨(some 65),(some (64,true)),.fieldAddr 12 (.s 3)⟩,
  ⟨(some 66),(some (64,true)),.load (some 16) (some 3) false (.s 65)⟩,
  ⟨(some 67),(some (64,true)),.load (some 8) (some 2) false (.s 2)⟩,
  ⟨(some 68),(some (64,true)),.call 148 [(.s 67)] []⟩,
  ⟨(some 69),(some (64,true)),.eqF (ks8 16) false (.s 66) (.s 68)⟩,
  ⟨(some 70),none,.pick (.s 64) (.s 69) (.c (bo false))⟩,
  ⟨(some 71),none,.mv false (.s 70)⟩]
def z5F:List z1d:=
 [
  ⟨(some 72),(some (71,true)),.mv false (.s 5)⟩,
  ⟨(some 73),(some (71,true)),.bin .eql (.s 72) (.c (i64 0))⟩,
  ⟨(some 74),none,.pick (.s 71) (.s 73) (.c (bo false))⟩,
  ⟨(some 75),none,.mv false (.s 74)⟩]
def z5E:List z1d:=
 [
  ⟨(some 76),(some (75,true)),.fieldAddr 3 (.s 4)⟩,
  ⟨(some 77),(some (75,true)),.load none (some 4) false (.s 76)⟩,
  ⟨(some 78),(some (75,true)),.bin .eql (.s 77) (.c (i64 2))⟩,
  ⟨(some 79),none,.pick (.s 75) (.s 78) (.c (bo false))⟩,
  ⟨(some 80),none,.mv false (.s 79)⟩]
def z2G:List z1d:=
 [
  ⟨(some 81),(some (80,true)),.fieldAddr 0 (.s 4)⟩,
  ⟨(some 82),(some (80,true)),.load none (some 4) false (.s 81)⟩,
  ⟨(some 83),(some (80,true)),.bin .eql (.s 82) (.c (i64 5))⟩,
  ⟨(some 84),none,.pick (.s 80) (.s 83) (.c (bo false))⟩,
  ⟨(some 85),none,.mv false (.s 84)⟩]
def z9D:List z1d:=
 [
  ⟨(some 86),(some (85,true)),.fieldAddr 2 (.s 4)⟩,
  ⟨(some 87),(some (85,true)),.load none (some 4) false (.s 86)⟩,
  ⟨(some 88),(some (85,true)),.bin .eql (.s 87) (.c (i64 1))⟩,
  ⟨(some 89),none,.pick (.s 85) (.s 88) (.c (bo false))⟩,
  ⟨(some 90),none,.mv false (.s 89)⟩]
def z1F:List z1d:=
 [
  ⟨(some 91),(some (90,true)),.fieldAddr 4 (.s 4)⟩,
  ⟨(some 92),(some (90,true)),.load none (some 4) false (.s 91)⟩,
  ⟨(some 93),(some (90,true)),.len false (.s 92)⟩,
  ⟨(some 94),(some (90,true)),.bin .eql (.s 93) (.c (i64 1))⟩,
  ⟨(some 95),none,.pick (.s 90) (.s 94) (.c (bo false))⟩,
  ⟨(some 96),none,.mv false (.s 95)⟩]
def z4E:List z1d:=
 [
  ⟨(some 97),(some (96,true)),.mv false (.s 7)⟩,
  ⟨(some 98),(some (96,true)),.bin .eql (.s 97) (.c (i64 7))⟩,
  ⟨(some 99),none,.pick (.s 96) (.s 98) (.c (bo false))⟩,
  ⟨(some 100),none,.mv false (.s 99)⟩]
def z3C:List z1d:=
 [
  ⟨(some 101),(some (100,true)),.mv false (.s 9)⟩,
  ⟨(some 102),(some (100,true)),.bin .eql (.s 101) (.c (i64 20))⟩,
  ⟨(some 103),none,.pick (.s 100) (.s 102) (.c (bo false))⟩,
  ⟨(some 104),none,.mv false (.s 103)⟩]
def z7A:List z1d:=
 [
  ⟨(some 105),(some (104,true)),.mv false (.s 11)⟩,
  ⟨(some 106),(some (104,true)),.bin .eql (.s 105) (.c (i64 0))⟩,
  ⟨(some 107),none,.pick (.s 104) (.s 106) (.c (bo false))⟩,
  ⟨(some 108),none,.mv false (.s 107)⟩]
def z2C:List z1d:=
 [
  ⟨(some 109),(some (108,true)),.fieldAddr 1 (.s 10)⟩,
  ⟨(some 110),(some (108,true)),.load none (some 10) false (.s 109)⟩,
  ⟨(some 111),(some (108,true)),.bin .eql (.s 110) (.c (i64 3))⟩,
  ⟨(some 112),none,.pick (.s 108) (.s 111) (.c (bo false))⟩,
  ⟨(some 113),none,.mv false (.s 112)⟩]
def z2B:List z1d:=
 [
  ⟨(some 114),(some (113,true)),.fieldAddr 2 (.s 10)⟩,
  ⟨(some 115),(some (113,true)),.load none (some 10) false (.s 114)⟩,
  ⟨(some 116),(some (113,true)),.bin .eql (.s 115) (.c (i64 2))⟩,
  ⟨(some 117),none,.pick (.s 113) (.s 116) (.c (bo false))⟩,
  ⟨(some 118),none,.mv false (.s 117)⟩]
def z8B:List z1d:=
 [
  ⟨(some 119),(some (118,true)),.mv false (.s 13)⟩,
  ⟨(some 120),(some (118,true)),.bin .eql (.s 119) (.c (i64 0))⟩,
  ⟨(some 121),none,.pick (.s 118) (.s 120) (.c (bo false))⟩,
  ⟨(some 122),none,.mv false (.s 121)⟩]
def z4C:List z1d:=
 [
  ⟨(some 123),(some (122,true)),.load (some 30) (some 3) false (.s 3)⟩,
  ⟨(some 124),(some (122,true)),.load (some 30) (some 12) false (.s 12)⟩,
  ⟨(some 125),(some (122,true)),.call 299 [(.s 123),(.s 124)] []⟩,
  ⟨(some 126),none,.pick (.s 122) (.s 125) (.c (bo false))⟩,
  ⟨(some 127),none,.mv false (.s 126)⟩]
def z7B:List z1d:=
 [
  ⟨(some 128),(some (127,true)),.load (some 5) (some 4) false (.s 4)⟩,
  ⟨(some 129),(some (127,true)),.call 311 [(.s 128),(.c (i64 8))] []⟩,
  ⟨(some 130),(some (127,true)),.len false (.s 129)⟩,
  ⟨(some 131),(some (127,true)),.bin .eql (.s 130) (.c (i64 1))⟩,
  ⟨(some 132),none,.pick (.s 127) (.s 131) (.c (bo false))⟩,
  ⟨(some 133),none,.mv false (.s 132)⟩]
def z1C:List z1d:=
 [
  ⟨(some 134),(some (133,true)),.load (some 5) (some 4) false (.s 4)⟩,
  ⟨(some 135),(some (133,true)),.call 311 [(.s 134),(.c (i64 9))] []⟩,
  ⟨(some 136),(some (133,true)),.len false (.s 135)⟩,
  ⟨(some 137),(some (133,true)),.bin .eql (.s 136) (.c (i64 0))⟩,
  ⟨(some 138),none,.pick (.s 133) (.s 137) (.c (bo false))⟩,
  ⟨(some 139),none,.mv false (.s 138)⟩]
def z9A:List z1d:=
 [
  ⟨(some 140),(some (139,true)),.load (some 30) (some 3) false (.s 3)⟩,
  ⟨(some 141),(some (139,true)),.call 303 [(.s 140)] []⟩,
  ⟨(some 142),(some (139,true)),.call 294 [(.c (i64 5)),(.c (i64 1))] []⟩,
  ⟨(some 143),(some (139,true)),.call 303 [(.s 142)] []⟩,
  ⟨(some 144),(some (139,true)),.eqF (ks8 16) true (.s 141) (.s 143)⟩,
  ⟨(some 145),none,.pick (.s 139) (.s 144) (.c (bo false))⟩,
  ⟨(some 0),none,.mv false (.s 145)⟩]
def z8D:z4a:=
 .seq (
  .region [0] [.norm [1,2,3,4,6,8,10,12]] (z6F++(z6E++(z7E++(z7F++(z5F++(z5E++(z2G++(z9D++(z1F++(z4E++(z3C++(z7A++(z2C++(z2B++(z8B++(z4C++(z7B++(z1C++(z9A)))))))))))))))))))) (
 .ret)
def z0E:z4a:=
 .seq (
  .region [1,2,3,4,5,7,9,10,11,12,13] [.norm [1,2,3,4,6,8,10,12]] [
   ⟨(some 45),none,.load (some 30) (some 3) false (.s 3)⟩,
   ⟨(some 46),none,.call 302 [(.s 45)] []⟩,
   ⟨(some 47),none,.call 322 [(.s 46)] []⟩,
   ⟨(some 44),none,.mv false (.s 47)⟩,
   ⟨(some 48),none,.extract 0 (.s 44)⟩,
   ⟨(some 49),none,.extract 1 (.s 44)⟩,
   ⟨(some 12),none,.alloc 12 (List.replicate 10 (i64 0)++[st []]++[.sl .plain none 0 []]++bys (z4c 16)++[.sl (.own 24) none 0 []]++[.sl (.own 1) none 0 []])⟩,
   ⟨none,none,.store (some 30) 12 false (.s 12) (.s 48)⟩,
   ⟨(some 13),none,.mv false (.s 49)⟩]) (
 z8D)
def z9E:z4a:=
 .seq (
  .region [1,2,3,4,5,7,9,10,11] [.norm [1,2,3,4,6,8,10]] [
   ⟨(some 39),none,.load (some 5) (some 4) false (.s 4)⟩,
   ⟨(some 40),none,.call 294 [(.c (i64 6)),(.c (i64 3))] []⟩,
   ⟨(some 41),none,.call 310 [(.s 39),(.s 40)] []⟩,
   ⟨(some 38),none,.mv false (.s 41)⟩,
   ⟨(some 42),none,.extract 0 (.s 38)⟩,
   ⟨(some 43),none,.extract 1 (.s 38)⟩,
   ⟨(some 10),none,.alloc 10 ([i64 0,i64 0,i64 0,i64 0]++[.sl (.own 24) none 0 []])⟩,
   ⟨none,none,.store (some 5) 10 false (.s 10) (.s 42)⟩,
   ⟨(some 11),none,.mv false (.s 43)⟩]) (
 z0E)
def z0F:z4a:=
 .seq (
  .region [1,2,3,4,5,7,9] [.norm [1,2,3,4,6,8]] [
   ⟨(some 33),none,.load (some 5) (some 4) false (.s 4)⟩,
   ⟨(some 34),none,.call 294 [(.c (i64 4)),(.c (i64 3))] []⟩,
   ⟨(some 35),none,.call 310 [(.s 33),(.s 34)] []⟩,
   ⟨(some 32),none,.mv false (.s 35)⟩,
   ⟨(some 36),none,.extract 0 (.s 32)⟩,
   ⟨(some 37),none,.extract 1 (.s 32)⟩,
   ⟨(some 8),none,.alloc 8 ([i64 0,i64 0,i64 0,i64 0]++[.sl (.own 24) none 0 []])⟩,
   ⟨none,none,.store (some 5) 8 false (.s 8) (.s 36)⟩,
   ⟨(some 9),none,.mv false (.s 37)⟩]) (
 z9E)
def z3F:z4a:=
 .seq (
  .region [1,2,3,4,5,7] [.norm [1,2,3,4,6]] [
   ⟨(some 27),none,.load (some 5) (some 4) false (.s 4)⟩,
   ⟨(some 28),none,.load (some 30) (some 3) false (.s 3)⟩,
   ⟨(some 29),none,.call 310 [(.s 27),(.s 28)] []⟩,
   ⟨(some 26),none,.mv false (.s 29)⟩,
   ⟨(some 30),none,.extract 0 (.s 26)⟩,
   ⟨(some 31),none,.extract 1 (.s 26)⟩,
   ⟨(some 6),none,.alloc 6 ([i64 0,i64 0,i64 0,i64 0]++[.sl (.own 24) none 0 []])⟩,
   ⟨none,none,.store (some 5) 6 false (.s 6) (.s 30)⟩,
   ⟨(some 7),none,.mv false (.s 31)⟩]) (
 z0F)
def z4F:z4a:=
 .seq (
  .region [1,2,3,4,5] [.norm [1,2,3,4]] [
   ⟨(some 21),none,.call 304 [] []⟩,
   ⟨(some 22),none,.load (some 30) (some 3) false (.s 3)⟩,
   ⟨(some 23),none,.call 310 [(.s 21),(.s 22)] []⟩,
   ⟨(some 20),none,.mv false (.s 23)⟩,
   ⟨(some 24),none,.extract 0 (.s 20)⟩,
   ⟨(some 25),none,.extract 1 (.s 20)⟩,
   ⟨(some 4),none,.alloc 4 ([i64 0,i64 0,i64 0,i64 0]++[.sl (.own 24) none 0 []])⟩,
   ⟨none,none,.store (some 5) 4 false (.s 4) (.s 24)⟩,
   ⟨(some 5),none,.mv false (.s 25)⟩]) (
 z3F)
def z3G:z4a:=
 .seq (
  .region [1,2,3] [.norm [1,2,3]] [
   ⟨(some 16),none,.load (some 8) (some 2) false (.s 2)⟩,
   ⟨(some 17),none,.build (List.replicate 7 (i64 0)++[bo false]++bys (z4c 16)) [(0,1,(.c (i64 1))),(1,1,(.c (i64 2))),(4,1,(.c (i64 9))),(5,1,(.c (i64 1)))]⟩,
   ⟨(some 18),none,.buildSl 24 1 [i64 0,i64 0,i64 0,i64 0,i64 0,i64 0,i64 0,bo false,u8 0,u8 0,u8 0,u8 0,u8 0,u8 0,u8 0,u8 0,u8 0,u8 0,u8 0,u8 0,u8 0,u8 0,u8 0,u8 0] [(0,24,(.s 17))]⟩,
   ⟨(some 19),none,.call 292 [(.c (i64 5)),(.s 16),(.c (i64 0)),(.c (i64 1)),(.s 18),(.c (.lit (.slice none 0 0)))] []⟩,
   ⟨(some 3),none,.alloc 3 (List.replicate 10 (i64 0)++[st []]++[.sl .plain none 0 []]++bys (z4c 16)++[.sl (.own 24) none 0 []]++[.sl (.own 1) none 0 []])⟩,
   ⟨none,none,.store (some 30) 3 false (.s 3) (.s 19)⟩]) (
 z4F)
def z6D:z4a:=
 .seq (
  .region [1,2] [.norm [1,2]] [
   ⟨(some 15),none,.build [i64 0,i64 0,i64 0,i64 0,i64 0,i64 0,st [],.sl .plain none 0 []] [(0,1,(.c (i64 1))),(3,1,(.c (i64 2)))]⟩,
   ⟨(some 2),none,.alloc 2 (List.replicate 6 (i64 0)++[st []]++[.sl .plain none 0 []])⟩,
   ⟨none,none,.store (some 8) 2 false (.s 2) (.s 15)⟩]) (
 z3G)
def z8E:z4a:=
 .seq (
  .region [1] [.norm [1]] [
   ⟨(some 14),none,.build [i64 0,i64 0,i64 0,i64 0,i64 0,i64 0,st [],.sl .plain none 0 []] [(0,1,(.c (i64 2))),(6,1,(.c (st [115,101,99,114,101,116])))]⟩,
   ⟨(some 1),none,.alloc 1 (List.replicate 6 (i64 0)++[st []]++[.sl .plain none 0 []])⟩,
   ⟨none,none,.store (some 8) 1 false (.s 1) (.s 14)⟩]) (
 z6D)
def z2g:z2t:=
 {n:=0,wr:=[],res:=[.t 0],body:=
  .seq (
   .region [] [] [
    ⟨(some 0),none,.mv false (.c (bo false))⟩]) (
  z8E)}

end Go.Abs
end

section
namespace Go.Abs
set_option maxRecDepth 100000
def sEx:Cmd:=⟨2,0,0,0,0,0,[115,101,99,114,101,116],[]⟩
theorem z8Ha:dEx.small:=by
 refine⟨⟨?_,?_,?_,?_,?_,?_,?_⟩,?_,?_⟩
 all_goals first|(constructor<;>decide)|(simp[dEx];done)
theorem z9cb:sEx.small:=by
 refine⟨⟨?_,?_,?_,?_,?_,?_,?_⟩,?_,?_⟩
 all_goals first|(constructor<;>decide)|(simp[sEx];done)
theorem dExL (nl:Option Bool):[i64 1,i64 0,i64 0,i64 2,i64 0,i64 0,st [],.sl .plain nl 0 []]=z1q dEx nl:=rfl
theorem sExL (nl:Option Bool):[i64 2,i64 0,i64 0,i64 0,i64 0,i64 0,st [115,101,99,114,101,116],.sl .plain nl 0 []]=z1q sEx nl:=rfl
def tEx:Cmd:=⟨17,0,0,0,0,0,[120],[]⟩
theorem z6pb:tEx.small:=by
 refine⟨⟨?_,?_,?_,?_,?_,?_,?_⟩,?_,?_⟩
 all_goals first|(constructor<;>decide)|(simp[tEx];done)
theorem z8Ga (nl:Option Bool):[i64 17,i64 0,i64 0,i64 0,i64 0,i64 0,st [120],.sl .plain nl 0 []]=z1q tEx nl:=rfl
theorem z4Zc:splice ([i64 0,i64 0,i64 0,i64 0,i64 0,i64 0,i64 0,bo false,u8 0,u8 0,u8 0,u8 0,u8 0,u8 0,u8 0,u8 0,u8 0,u8 0,u8 0,u8 0,u8 0,u8 0,u8 0,u8 0]:List z2a) 0 (i64 1::i64 2::i64 0::i64 0::i64 9::i64 1::i64 0::bo false::bys (z4c 16))=z6b [mEx]:=rfl
set_option maxHeartbeats 16000000 in
theorem z39b (E:Env) (h289:E.G 289=z1ja) (h292:E.G 292=z2Hb) (h294:E.G 294=z5Lb) (h299:E.G 299=z2Pa) (h300:E.G 300=z3Jb) (h302:E.G 302=z6La) (h303:E.G 303=z4Ua) (h304:E.G 304=z9Kb) (h310:E.G 310=z4Nb) (h311:E.G 311=z33b) (h322:E.G 322=z0Oa) (h148:E.G 148=z8da):∀ds,z68b.pre ds→ds.length=z2g.n∧awp E z2g.body (z1A z2g.res (z68b.post ds)) (z9c z2g.wr ds):=by
 rintro _ rfl
 simp(maxSteps:=1000000) (disch:=first|omega|(simp;done)|(simp;omega)) [z9a,z1a,z0a,z2g,z8E,dExL,sExL,z4za]
 simp(maxSteps:=1000000) (disch:=first|omega|(simp;done)|(simp;omega)) [z9a,z1a,z0a,z6D,dExL,sExL,z4za]
 have hX:(xEx DEx).small:=z1Oa rfl
 have m1:z6b [mEx]=z6b [mEx]:=rfl
 have pm:z2Hb.pre [i64 5,.agg (z1q dEx none),i64 0,i64 1,.sl .plain (some false) 1 (z6b [mEx]),.sl .plain (some true) 0 []]=True:=z8Ub (made:=[mEx]) (gone:=[]) z8Ha (by intro m hm;simp only[List.mem_singleton] at hm;subst hm;exact hX.1.2.2.2.2.2.2.1 _ (List.mem_singleton.2 rfl)) (by decide) (by decide)
 have qm:z2Hb.post [i64 5,.agg (z1q dEx none),i64 0,i64 1,.sl .plain (some false) 1 (z6b [mEx]),.sl .plain (some true) 0 []]= .agg (z5l none none none (xEx DEx)):=by
  have:=z82a (now:=5) (req:=0) (mode:=1) (c:=dEx) (nc:=none) (nm:=some false) (ng:=some true) (made:=[mEx]) (gone:=[]) (by intro m hm;simp only[List.mem_singleton] at hm;subst hm;exact hX.1.2.2.2.2.2.2.1 _ (List.mem_singleton.2 rfl)) 0
  rw[mkE,z2Ob] at this
  exact this
 simp(maxSteps:=1000000) (disch:=first|omega|(simp;done)|(simp;omega)) [z9a,z1a,z0a,z3G,h292,z4Zc,pm,qm,z4n (x:=xEx DEx) rfl]
 have vs (nk:Option Bool) (v:z7i) (a b c d e:z2a):splice [a,b,c,d,e] 0 (z3d nk v)=z3d nk v:=rfl
 have v0:vOk z4xa:=by simp[vOk,z4xa,z2l,z0na,z5d]
 have vE:vOk vEx:=⟨by intro m hm;simp only[vEx,List.mem_singleton] at hm;subst hm;exact hX.1.2.2.2.2.2.2.1 _ (List.mem_singleton.2 rfl),by decide,by constructor<;>decide,by decide,by decide⟩
 have pa:=z9ra (nk:=none) (nc:=none) (nm:=none) (ng:=none) v0 hX
 have qa:=z7aa (nk:=none) (nc:=none) (nm:=none) (ng:=none) v0 hX
 have pb:=z9ra (nk:=none) (nc:=none) (nm:=none) (ng:=none) vE hX
 have qb:=z7aa (nk:=none) (nc:=none) (nm:=none) (ng:=none) vE hX
 rw[z18c] at qa
 rw[z8sc] at qb
 have vp (nk:Option Bool) (v:z7i):z2h (z3d nk v)=true:=by simp[z3d]
 have vl (nk:Option Bool) (v:z7i):(z3d nk v).length=5:=rfl
 have view_tk (nk:Option Bool) (v:z7i):(z3d nk v).take 5=z3d nk v:=rfl
 have vc (nk:Option Bool) (v:z7i):(∀c∈z3d nk v,z2d c)=True:=eq_true (by intro c hc;simp only[z3d,List.mem_cons,List.not_mem_nil,or_false] at hc;rcases hc with rfl|rfl|rfl|rfl|rfl<;>trivial)
 have vt (nk:Option Bool) (v:z7i):(∀c∈z3d nk v,z1f c=false)=True:=eq_true (by intro c hc;simp only[z3d,List.mem_cons,List.not_mem_nil,or_false] at hc;rcases hc with rfl|rfl|rfl|rfl|rfl<;>rfl)
 have s4:(z9Ha 4 3).small:=z5ba (by constructor<;>decide) (by constructor<;>decide)
 have s6:(z9Ha 6 3).small:=z5ba (by constructor<;>decide) (by constructor<;>decide)
 have s5:(z9Ha 5 1).small:=z5ba (by constructor<;>decide) (by constructor<;>decide)
 have pc:=z9ra (nk:=none) (nc:=none) (nm:=none) (ng:=none) vE s4
 have qc:=z7aa (nk:=none) (nc:=none) (nm:=none) (ng:=none) vE s4
 have pd:=z9ra (nk:=none) (nc:=none) (nm:=none) (ng:=none) vE s6
 have qd:=z7aa (nk:=none) (nc:=none) (nm:=none) (ng:=none) vE s6
 rw[z37b] at qc
 rw[z7Gc] at qd
 have hle:(z6Aa (xEx DEx)).length=70:=by kernel_rfl
 have pe:=z41a (nc:=none) (nm:=none) (ng:=none) hX
 have qe:=z7qa (nc:=none) (nm:=none) (ng:=none) hX
 have pf:z0Oa.pre [st (z6Aa (xEx DEx))]=True:=eq_true rfl
 have qf:z0Oa.post [st (z6Aa (xEx DEx))]= .tup [.agg (z5l none none none (xEx DEx)),i64 0]:=rfl
 simp(maxSteps:=1000000) (disch:=first|omega|(simp;done)|(simp;omega)) [z9a,z1a,z0a,z4F,h304,pa,qa,h310,vs,vp,vl,vc,vt,z4n (x:=xEx DEx) rfl,z1r (x:=xEx DEx) rfl,z8d (x:=xEx DEx) rfl,view_tk]
 simp(maxSteps:=1000000) (disch:=first|omega|(simp;done)|(simp;omega)) [z9a,z1a,z0a,z3F,pb,qb,h310,vs,vp,vl,vc,vt,z4n (x:=xEx DEx) rfl,z1r (x:=xEx DEx) rfl,z8d (x:=xEx DEx) rfl,view_tk]
 simp(maxSteps:=1000000) (disch:=first|omega|(simp;done)|(simp;omega)) [z9a,z1a,z0a,z0F,h294,pc,qc,h310,vs,vp,vl,vc,vt,z4n (x:=xEx DEx) rfl,z1r (x:=xEx DEx) rfl,z8d (x:=xEx DEx) rfl,view_tk]
 simp(maxSteps:=1000000) (disch:=first|omega|(simp;done)|(simp;omega)) [z9a,z1a,z0a,z9E,h294,pd,qd,h310,vs,vp,vl,vc,vt,z4n (x:=xEx DEx) rfl,z1r (x:=xEx DEx) rfl,z8d (x:=xEx DEx) rfl,view_tk]
 simp(maxSteps:=1000000) (disch:=first|omega|(simp;done)|(simp;omega)) [z9a,z1a,z0a,z0E,h302,h322,pe,qe,pf,qf,h310,vs,vp,vl,vc,vt,z4n (x:=xEx DEx) rfl,z1r (x:=xEx DEx) rfl,z8d (x:=xEx DEx) rfl,view_tk]
 clear pa qa pb qb pc qc pd qd pe qe pf qf pm qm
 have c1:z1ja.post [.agg (z1q sEx none)]= .agg [i64 2,i64 0,i64 0,i64 0,i64 0,i64 0,st [],.sl .plain none 0 []]:=by rw[z3qa];rfl
 have c2:z1ja.post [.agg (z1q tEx none)]= .agg [i64 17,i64 0,i64 0,i64 0,i64 0,i64 0,st [120],.sl .plain none 0 []]:=by rw[z3qa];rfl
 have d1:z1ja.pre [.agg (z1q sEx none)]=True:=z9Da z9cb
 have d2:z1ja.pre [.agg (z1q tEx none)]=True:=z9Da z6pb
 have e1:=z5Ta (nc:=none) (nm:=none) (ng:=none) hX
 have e2:=z5pa (nc:=none) (nm:=none) (ng:=none) hX
 rw[okEx] at e2
 have f1:((z5l none none none (xEx DEx)).drop 12).take 16=bys DEx:=z8Ca rfl
 have f2:z8da.pre [.agg (z1q dEx none)]=True:=z90a z8Ha
 have f3:z8da.post [.agg (z1q dEx none)]= .agg (bys DEx):=by rw[z2ia,z2Ob]
 have v1:hdA (z3d none vEx)=i64 5:=rfl
 have v2:hdA ((z3d none vEx).drop 2)=i64 1:=rfl
 have v3:hdA ((z3d none vEx).drop 3)=i64 2:=rfl
 have v4:hdA ((z3d none vEx).drop 4)= .sl .plain none 1 (z6b [mEx]):=rfl
 have v5:hdA ((z3d none ⟨6,3,2,2,[mEx]⟩).drop 1)=i64 3:=rfl
 have v5t:hdA (z3d none ⟨6,3,2,2,[mEx]⟩).tail=i64 3:=rfl
 have v6:hdA ((z3d none ⟨6,3,2,2,[mEx]⟩).drop 2)=i64 2:=rfl
 have s1:=z80a (nc:=none) (nm:=none) (ng:=none) (nc':=none) (nm':=none) (ng':=none) hX hX
 have s2:=z4ra (nc:=none) (nm:=none) (ng:=none) (nc':=none) (nm':=none) (ng':=none) hX hX
 have s3:z3da (xEx DEx) (xEx DEx)=true:=by kernel_rfl
 rw[s3] at s2
 have l1:=z9ib (nk:=none) (v:=vEx) 8 vE.1 vE.2.1
 have l2:=z6Fa (nk:=none) (v:=vEx) 8 vE.1
 have l3:=z9ib (nk:=none) (v:=vEx) 9 vE.1 vE.2.1
 have l4:=z6Fa (nk:=none) (v:=vEx) 9 vE.1
 rw[z49b] at l2
 rw[z29b] at l4
 have g1:=z20a (nc:=none) (nm:=none) (ng:=none) hX
 have g2:=z2ua (nc:=none) (nm:=none) (ng:=none) hX
 have g3:=z20a (nc:=none) (nm:=none) (ng:=none) s5
 have g4:=z2ua (nc:=none) (nm:=none) (ng:=none) s5
 obtain⟨z1,hz1,n1⟩:∃z,z5G 8 [z6Aa (xEx DEx)]=z∧z.length=16:=⟨_,rfl,z8A _ _⟩
 obtain⟨z2,hz2,n2⟩:∃z,z5G 8 [z6Aa (z9Ha 5 1)]=z∧z.length=16:=⟨_,rfl,z8A _ _⟩
 have ne:¬z1=z2:=by rw[←hz1,←hz2,z4qc,z6yc];decide
 rw[hz1] at g2
 rw[hz2] at g4
 have nD:DEx.length=16:=rfl
 have t6:(z1q tEx none)[6]?.getD z2a.undef=st [120]:=rfl
 have t7:dem (st [120])=st [120]:=rfl
 unfold z8D
 rw[z4ea]
 refine z3a fun Q2 hQ2=> ?_
 rw[z5R]
 refine z2e fun T hT=> ?_
 simp(maxSteps:=1000000) (disch:=first|omega|(simp;done)|(simp;omega)) [z9a,z1a,z0a,t6,t7,z6F,h289,c1,c2,d1,d2,z8Ga,h300,e1,e2,f1,f2,f3,h148,z1b nD nD,v1,v2,v3,v4,v5,v5t,v6,h299,s1,s2,h311,l1,l2,l3,l4,h303,g1,g2,g3,g4,h294,z1b n1 n2,ne,nD,n1,n2,vs,vp,vl,vc,vt,view_tk,z4n (x:=xEx DEx) rfl,z1r (x:=xEx DEx) rfl,z8d (x:=xEx DEx) rfl]
 rw[hT];clear hT
 refine z2e fun T hT=> ?_
 simp(maxSteps:=1000000) (disch:=first|omega|(simp;done)|(simp;omega)) [z9a,z1a,z0a,t6,t7,z6E,h289,c1,c2,d1,d2,z8Ga,h300,e1,e2,f1,f2,f3,h148,z1b nD nD,v1,v2,v3,v4,v5,v5t,v6,h299,s1,s2,h311,l1,l2,l3,l4,h303,g1,g2,g3,g4,h294,z1b n1 n2,ne,nD,n1,n2,vs,vp,vl,vc,vt,view_tk,z4n (x:=xEx DEx) rfl,z1r (x:=xEx DEx) rfl,z8d (x:=xEx DEx) rfl]
 rw[hT];clear hT
 refine z2e fun T hT=> ?_
 simp(maxSteps:=1000000) (disch:=first|omega|(simp;done)|(simp;omega)) [z9a,z1a,z0a,t6,t7,z7E,h289,c1,c2,d1,d2,z8Ga,h300,e1,e2,f1,f2,f3,h148,z1b nD nD,v1,v2,v3,v4,v5,v5t,v6,h299,s1,s2,h311,l1,l2,l3,l4,h303,g1,g2,g3,g4,h294,z1b n1 n2,ne,nD,n1,n2,vs,vp,vl,vc,vt,view_tk,z4n (x:=xEx DEx) rfl,z1r (x:=xEx DEx) rfl,z8d (x:=xEx DEx) rfl]
 rw[hT];clear hT
 refine z2e fun T hT=> ?_
 simp(maxSteps:=1000000) (disch:=first|omega|(simp;done)|(simp;omega)) [z9a,z1a,z0a,t6,t7,z7F,h289,c1,c2,d1,d2,z8Ga,h300,e1,e2,f1,f2,f3,h148,z1b nD nD,v1,v2,v3,v4,v5,v5t,v6,h299,s1,s2,h311,l1,l2,l3,l4,h303,g1,g2,g3,g4,h294,z1b n1 n2,ne,nD,n1,n2,vs,vp,vl,vc,vt,view_tk,z4n (x:=xEx DEx) rfl,z1r (x:=xEx DEx) rfl,z8d (x:=xEx DEx) rfl]
 rw[hT];clear hT
 refine z2e fun T hT=> ?_
 simp(maxSteps:=1000000) (disch:=first|omega|(simp;done)|(simp;omega)) [z9a,z1a,z0a,t6,t7,z5F,h289,c1,c2,d1,d2,z8Ga,h300,e1,e2,f1,f2,f3,h148,z1b nD nD,v1,v2,v3,v4,v5,v5t,v6,h299,s1,s2,h311,l1,l2,l3,l4,h303,g1,g2,g3,g4,h294,z1b n1 n2,ne,nD,n1,n2,vs,vp,vl,vc,vt,view_tk,z4n (x:=xEx DEx) rfl,z1r (x:=xEx DEx) rfl,z8d (x:=xEx DEx) rfl]
 rw[hT];clear hT
 refine z2e fun T hT=> ?_
 simp(maxSteps:=1000000) (disch:=first|omega|(simp;done)|(simp;omega)) [z9a,z1a,z0a,t6,t7,z5E,h289,c1,c2,d1,d2,z8Ga,h300,e1,e2,f1,f2,f3,h148,z1b nD nD,v1,v2,v3,v4,v5,v5t,v6,h299,s1,s2,h311,l1,l2,l3,l4,h303,g1,g2,g3,g4,h294,z1b n1 n2,ne,nD,n1,n2,vs,vp,vl,vc,vt,view_tk,z4n (x:=xEx DEx) rfl,z1r (x:=xEx DEx) rfl,z8d (x:=xEx DEx) rfl]
 rw[hT];clear hT
 refine z2e fun T hT=> ?_
 simp(maxSteps:=1000000) (disch:=first|omega|(simp;done)|(simp;omega)) [z9a,z1a,z0a,t6,t7,z2G,h289,c1,c2,d1,d2,z8Ga,h300,e1,e2,f1,f2,f3,h148,z1b nD nD,v1,v2,v3,v4,v5,v5t,v6,h299,s1,s2,h311,l1,l2,l3,l4,h303,g1,g2,g3,g4,h294,z1b n1 n2,ne,nD,n1,n2,vs,vp,vl,vc,vt,view_tk,z4n (x:=xEx DEx) rfl,z1r (x:=xEx DEx) rfl,z8d (x:=xEx DEx) rfl]
 rw[hT];clear hT
 refine z2e fun T hT=> ?_
 simp(maxSteps:=1000000) (disch:=first|omega|(simp;done)|(simp;omega)) [z9a,z1a,z0a,t6,t7,z9D,h289,c1,c2,d1,d2,z8Ga,h300,e1,e2,f1,f2,f3,h148,z1b nD nD,v1,v2,v3,v4,v5,v5t,v6,h299,s1,s2,h311,l1,l2,l3,l4,h303,g1,g2,g3,g4,h294,z1b n1 n2,ne,nD,n1,n2,vs,vp,vl,vc,vt,view_tk,z4n (x:=xEx DEx) rfl,z1r (x:=xEx DEx) rfl,z8d (x:=xEx DEx) rfl]
 rw[hT];clear hT
 refine z2e fun T hT=> ?_
 simp(maxSteps:=1000000) (disch:=first|omega|(simp;done)|(simp;omega)) [z9a,z1a,z0a,t6,t7,z1F,h289,c1,c2,d1,d2,z8Ga,h300,e1,e2,f1,f2,f3,h148,z1b nD nD,v1,v2,v3,v4,v5,v5t,v6,h299,s1,s2,h311,l1,l2,l3,l4,h303,g1,g2,g3,g4,h294,z1b n1 n2,ne,nD,n1,n2,vs,vp,vl,vc,vt,view_tk,z4n (x:=xEx DEx) rfl,z1r (x:=xEx DEx) rfl,z8d (x:=xEx DEx) rfl]
 rw[hT];clear hT
 refine z2e fun T hT=> ?_
 simp(maxSteps:=1000000) (disch:=first|omega|(simp;done)|(simp;omega)) [z9a,z1a,z0a,t6,t7,z4E,h289,c1,c2,d1,d2,z8Ga,h300,e1,e2,f1,f2,f3,h148,z1b nD nD,v1,v2,v3,v4,v5,v5t,v6,h299,s1,s2,h311,l1,l2,l3,l4,h303,g1,g2,g3,g4,h294,z1b n1 n2,ne,nD,n1,n2,vs,vp,vl,vc,vt,view_tk,z4n (x:=xEx DEx) rfl,z1r (x:=xEx DEx) rfl,z8d (x:=xEx DEx) rfl]
 rw[hT];clear hT
 refine z2e fun T hT=> ?_
 simp(maxSteps:=1000000) (disch:=first|omega|(simp;done)|(simp;omega)) [z9a,z1a,z0a,t6,t7,z3C,h289,c1,c2,d1,d2,z8Ga,h300,e1,e2,f1,f2,f3,h148,z1b nD nD,v1,v2,v3,v4,v5,v5t,v6,h299,s1,s2,h311,l1,l2,l3,l4,h303,g1,g2,g3,g4,h294,z1b n1 n2,ne,nD,n1,n2,vs,vp,vl,vc,vt,view_tk,z4n (x:=xEx DEx) rfl,z1r (x:=xEx DEx) rfl,z8d (x:=xEx DEx) rfl]
 rw[hT];clear hT
 refine z2e fun T hT=> ?_
 simp(maxSteps:=1000000) (disch:=first|omega|(simp;done)|(simp;omega)) [z9a,z1a,z0a,t6,t7,z7A,h289,c1,c2,d1,d2,z8Ga,h300,e1,e2,f1,f2,f3,h148,z1b nD nD,v1,v2,v3,v4,v5,v5t,v6,h299,s1,s2,h311,l1,l2,l3,l4,h303,g1,g2,g3,g4,h294,z1b n1 n2,ne,nD,n1,n2,vs,vp,vl,vc,vt,view_tk,z4n (x:=xEx DEx) rfl,z1r (x:=xEx DEx) rfl,z8d (x:=xEx DEx) rfl]
 rw[hT];clear hT
 refine z2e fun T hT=> ?_
 simp(maxSteps:=1000000) (disch:=first|omega|(simp;done)|(simp;omega)) [z9a,z1a,z0a,t6,t7,z2C,h289,c1,c2,d1,d2,z8Ga,h300,e1,e2,f1,f2,f3,h148,z1b nD nD,v1,v2,v3,v4,v5,v5t,v6,h299,s1,s2,h311,l1,l2,l3,l4,h303,g1,g2,g3,g4,h294,z1b n1 n2,ne,nD,n1,n2,vs,vp,vl,vc,vt,view_tk,z4n (x:=xEx DEx) rfl,z1r (x:=xEx DEx) rfl,z8d (x:=xEx DEx) rfl]
 rw[hT];clear hT
 refine z2e fun T hT=> ?_
 simp(maxSteps:=1000000) (disch:=first|omega|(simp;done)|(simp;omega)) [z9a,z1a,z0a,t6,t7,z2B,h289,c1,c2,d1,d2,z8Ga,h300,e1,e2,f1,f2,f3,h148,z1b nD nD,v1,v2,v3,v4,v5,v5t,v6,h299,s1,s2,h311,l1,l2,l3,l4,h303,g1,g2,g3,g4,h294,z1b n1 n2,ne,nD,n1,n2,vs,vp,vl,vc,vt,view_tk,z4n (x:=xEx DEx) rfl,z1r (x:=xEx DEx) rfl,z8d (x:=xEx DEx) rfl]
 rw[hT];clear hT
 refine z2e fun T hT=> ?_
 simp(maxSteps:=1000000) (disch:=first|omega|(simp;done)|(simp;omega)) [z9a,z1a,z0a,t6,t7,z8B,h289,c1,c2,d1,d2,z8Ga,h300,e1,e2,f1,f2,f3,h148,z1b nD nD,v1,v2,v3,v4,v5,v5t,v6,h299,s1,s2,h311,l1,l2,l3,l4,h303,g1,g2,g3,g4,h294,z1b n1 n2,ne,nD,n1,n2,vs,vp,vl,vc,vt,view_tk,z4n (x:=xEx DEx) rfl,z1r (x:=xEx DEx) rfl,z8d (x:=xEx DEx) rfl]
 rw[hT];clear hT
 refine z2e fun T hT=> ?_
 simp(maxSteps:=1000000) (disch:=first|omega|(simp;done)|(simp;omega)) [z9a,z1a,z0a,t6,t7,z4C,h289,c1,c2,d1,d2,z8Ga,h300,e1,e2,f1,f2,f3,h148,z1b nD nD,v1,v2,v3,v4,v5,v5t,v6,h299,s1,s2,h311,l1,l2,l3,l4,h303,g1,g2,g3,g4,h294,z1b n1 n2,ne,nD,n1,n2,vs,vp,vl,vc,vt,view_tk,z4n (x:=xEx DEx) rfl,z1r (x:=xEx DEx) rfl,z8d (x:=xEx DEx) rfl]
 rw[hT];clear hT
 refine z2e fun T hT=> ?_
 simp(maxSteps:=1000000) (disch:=first|omega|(simp;done)|(simp;omega)) [z9a,z1a,z0a,t6,t7,z7B,h289,c1,c2,d1,d2,z8Ga,h300,e1,e2,f1,f2,f3,h148,z1b nD nD,v1,v2,v3,v4,v5,v5t,v6,h299,s1,s2,h311,l1,l2,l3,l4,h303,g1,g2,g3,g4,h294,z1b n1 n2,ne,nD,n1,n2,vs,vp,vl,vc,vt,view_tk,z4n (x:=xEx DEx) rfl,z1r (x:=xEx DEx) rfl,z8d (x:=xEx DEx) rfl]
 rw[hT];clear hT
 refine z2e fun T hT=> ?_
 simp(maxSteps:=1000000) (disch:=first|omega|(simp;done)|(simp;omega)) [z9a,z1a,z0a,t6,t7,z1C,h289,c1,c2,d1,d2,z8Ga,h300,e1,e2,f1,f2,f3,h148,z1b nD nD,v1,v2,v3,v4,v5,v5t,v6,h299,s1,s2,h311,l1,l2,l3,l4,h303,g1,g2,g3,g4,h294,z1b n1 n2,ne,nD,n1,n2,vs,vp,vl,vc,vt,view_tk,z4n (x:=xEx DEx) rfl,z1r (x:=xEx DEx) rfl,z8d (x:=xEx DEx) rfl]
 rw[hT];clear hT
 simp(maxSteps:=1000000) (disch:=first|omega|(simp;done)|(simp;omega)) [z9a,z1a,z0a,t6,t7,z9A,h289,c1,c2,d1,d2,z8Ga,h300,e1,e2,f1,f2,f3,h148,z1b nD nD,v1,v2,v3,v4,v5,v5t,v6,h299,s1,s2,h311,l1,l2,l3,l4,h303,g1,g2,g3,g4,h294,z1b n1 n2,ne,nD,n1,n2,vs,vp,vl,vc,vt,view_tk,z4n (x:=xEx DEx) rfl,z1r (x:=xEx DEx) rfl,z8d (x:=xEx DEx) rfl,hQ2]
end Go.Abs
end
