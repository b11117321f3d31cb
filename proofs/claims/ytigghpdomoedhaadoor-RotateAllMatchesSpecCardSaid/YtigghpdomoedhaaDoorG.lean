/- Lemmas: an abstract interpreter, and what the functions compute. -/
import Derived.Test.YtigghpdomoedhaaDoorD
import Derived.Test.YtigghpdomoedhaaDoorE
import Derived.Test.YtigghpdomoedhaaDoorF
set_option linter.unusedSimpArgs false
set_option linter.unusedVariables false
set_option linter.unusedSectionVars false
section
namespace Go.Abs
set_option maxRecDepth 100000
def z2j:z2p:=
 {n:=2,wr:=[],res:=[.t 4],body:=
 .seq (
 .region [] [] [
 ⟨some 4,none,.mv false (.c (st []))⟩]) (
 .seq (
 .region [5] [] [
 ⟨some 7,none,.mv false (.s 0)⟩,
 ⟨some 8,none,.call 27 [(.s 7),(.c (u8 54))] []⟩,
 ⟨some 5,none,.mv true (.s 8)⟩]) (
 .seq (
 .region [5] [] [
 ⟨some 9,none,.mv true (.s 5)⟩,
 ⟨some 10,none,.mv false (.s 1)⟩,
 ⟨some 11,none,.append 1 1 true none none 9 (.s 10)⟩,
 ⟨some 5,none,.mv true (.s 11)⟩]) (
 .seq (
 .region [5,6] [] [
 ⟨some 12,none,.mv false (.s 0)⟩,
 ⟨some 13,none,.call 27 [(.s 12),(.c (u8 92))] []⟩,
 ⟨some 6,none,.mv true (.s 13)⟩]) (
 .seq (
 .region [6] [] [
 ⟨some 14,none,.mv true (.s 6)⟩,
 ⟨some 15,none,.mv true (.s 5)⟩,
 ⟨some 16,none,.call 15 [(.s 15)] []⟩,
 ⟨some 17,none,.call 19 [(.s 16)] []⟩,
 ⟨some 18,none,.append 1 1 true none none 14 (.s 17)⟩,
 ⟨some 6,none,.mv true (.s 18)⟩]) (
 .seq (
 .region [4] [] [
 ⟨some 19,none,.mv true (.s 6)⟩,
 ⟨some 20,none,.call 15 [(.s 19)] []⟩,
 ⟨some 21,none,.call 19 [(.s 20)] []⟩,
 ⟨some 4,none,.mv false (.s 21)⟩]) (
 .ret))))))}

def z0f:z2p:=
 {n:=1,wr:=[],res:=[.t 2],body:=
 .seq (
 .region [1] [.norm [1]] [
 ⟨some 1,none,.box 1 (some 32) false (.s 0)⟩,
 ⟨some 2,none,.mv false (.c (st []))⟩]) (
 .seq (
 .region [1,3] [] [
 ⟨some 3,none,.mv true (.c (.sl (.own 1) none 0 []))⟩]) (
 .seq (
 .seq (
 .region [1,3,4] [] [
 ⟨some 4,none,.mv false (.c (i64 0))⟩]) (
 .block 0 (
 .loop (
 .seq (
 .seq (
 .region [1,3,4,6] [] [
 ⟨some 5,none,.mv false (.s 4)⟩,
 ⟨some 6,none,.bin .lss (.s 5) (.c (i64 32))⟩]) (
 .cond (.s 6) (
 .ghost (.keep [1,3,4]) .skip) (
 .ghost (.keep [3]) (.exit 0)))) (
 .seq (
 .block 1 (
 .region [1,3,4] [.norm [1]] [
 ⟨some 9,none,.mv true (.s 3)⟩,
 ⟨some 10,none,.mv false (.s 4)⟩,
 ⟨some 11,none,.idxArr 32 1 (.s 1) (.s 10)⟩,
 ⟨some 12,none,.load none (some 1) false (.s 11)⟩,
 ⟨some 13,none,.buildSl 1 1 [u8 0] [(0,1,(.s 12))]⟩,
 ⟨some 14,none,.append 1 1 false none none 9 (.s 13)⟩,
 ⟨some 3,none,.mv true (.s 14)⟩])) (
 .region [1,3,4] [] [
 ⟨some 7,none,.mv false (.s 4)⟩,
 ⟨some 8,none,.bin .add (.s 7) (.c (i64 1))⟩,
 ⟨some 4,none,.mv false (.s 8)⟩])))))) (
 .seq (
 .region [2] [] [
 ⟨some 15,none,.mv true (.s 3)⟩,
 ⟨some 16,none,.toStr none (.s 15)⟩,
 ⟨some 2,none,.mv false (.s 16)⟩]) (
 .ret))))}

def z1g:z2p:=
 {n:=1,wr:=[],res:=[.t 2],body:=
 .seq (
 .region [] [] [
 ⟨some 2,none,.mv true (.c (.sl (.own 1) none 0 []))⟩]) (
 .seq (
 .region [3] [] [
 ⟨some 6,none,.buildSl 1 0 [] []⟩,
 ⟨some 7,none,.mv false (.s 0)⟩,
 ⟨some 8,none,.append 1 1 false (some false) none 6 (.s 7)⟩,
 ⟨some 3,none,.mv true (.s 8)⟩]) (
 .seq (
 .region [3] [] [
 ⟨some 9,none,.mv true (.s 3)⟩,
 ⟨some 10,none,.buildSl 1 1 [u8 0] [(0,1,(.c (u8 128)))]⟩,
 ⟨some 11,none,.append 1 1 false (some false) none 9 (.s 10)⟩,
 ⟨some 3,none,.mv true (.s 11)⟩]) (
 .seq (
 .block 0 (
 .loop (
 .seq (
 .seq (
 .region [3,15] [] [
 ⟨some 12,none,.mv false (.s 3)⟩,
 ⟨some 13,none,.len false (.s 12)⟩,
 ⟨some 14,none,.bin .rem (.s 13) (.c (i64 64))⟩,
 ⟨some 15,none,.bin .neq (.s 14) (.c (i64 56))⟩]) (
 .cond (.s 15) (
 .ghost (.keep [3]) .skip) (
 .ghost (.keep [3]) (.exit 0)))) (
 .block 1 (
 .region [3] [] [
 ⟨some 16,none,.mv true (.s 3)⟩,
 ⟨some 17,none,.buildSl 1 1 [u8 0] [(0,1,(.c (u8 0)))]⟩,
 ⟨some 18,none,.append 1 1 false (some false) none 16 (.s 17)⟩,
 ⟨some 3,none,.mv true (.s 18)⟩]))))) (
 .seq (
 .region [3,4] [] [
 ⟨some 19,none,.mv false (.s 0)⟩,
 ⟨some 20,none,.len false (.s 19)⟩,
 ⟨some 21,none,.toInt .u64 (.s 20)⟩,
 ⟨some 22,none,.bin .mul (.c (u64 8)) (.s 21)⟩,
 ⟨some 4,none,.mv false (.s 22)⟩]) (
 .seq (
 .seq (
 .region [3,4,5] [] [
 ⟨some 5,none,.mv false (.c (i64 0))⟩]) (
 .block 2 (
 .loop (
 .seq (
 .seq (
 .region [3,4,5,24] [] [
 ⟨some 23,none,.mv false (.s 5)⟩,
 ⟨some 24,none,.bin .lss (.s 23) (.c (i64 8))⟩]) (
 .cond (.s 24) (
 .ghost (.keep [3,4,5]) .skip) (
 .ghost (.keep [3]) (.exit 2)))) (
 .seq (
 .block 3 (
 .region [3,4,5] [] [
 ⟨some 27,none,.mv true (.s 3)⟩,
 ⟨some 28,none,.mv false (.s 4)⟩,
 ⟨some 29,none,.mv false (.s 5)⟩,
 ⟨some 30,none,.bin .mul (.c (i64 8)) (.s 29)⟩,
 ⟨some 31,none,.bin .sub (.c (i64 56)) (.s 30)⟩,
 ⟨some 32,none,.bin .shr (.s 28) (.s 31)⟩,
 ⟨some 33,none,.toInt .u8 (.s 32)⟩,
 ⟨some 34,none,.buildSl 1 1 [u8 0] [(0,1,(.s 33))]⟩,
 ⟨some 35,none,.append 1 1 false (some false) none 27 (.s 34)⟩,
 ⟨some 3,none,.mv true (.s 35)⟩])) (
 .region [3,4,5] [] [
 ⟨some 25,none,.mv false (.s 5)⟩,
 ⟨some 26,none,.bin .add (.s 25) (.c (i64 1))⟩,
 ⟨some 5,none,.mv false (.s 26)⟩])))))) (
 .seq (
 .region [2] [] [
 ⟨some 36,none,.mv true (.s 3)⟩,
 ⟨some 2,none,.mv true (.s 36)⟩]) (
 .ret)))))))}

def z1h:z2p:=
 {n:=1,wr:=[],res:=[.cell 2 (some 64) 2],body:=
 .seq (
 .region [2] [.norm [2]] [
 ⟨some 2,none,.alloc 2 (z3o (z3k 64))⟩]) (
 .seq (
 .region [2,3] [.norm [2,3]] [
 ⟨some 3,none,.alloc 3 (z3o (z3k 64))⟩]) (
 .seq (
 .seq (
 .region [2,3,4] [] [
 ⟨some 4,none,.mv false (.c (i64 0))⟩]) (
 .block 0 (
 .loop (
 .seq (
 .seq (
 .region [2,3,4,9] [] [
 ⟨some 8,none,.mv false (.s 4)⟩,
 ⟨some 9,none,.bin .lss (.s 8) (.c (i64 16))⟩]) (
 .cond (.s 9) (
 .ghost (.keep [2,3,4]) .skip) (
 .ghost (.keep [2,3]) (.exit 0)))) (
 .seq (
 .block 1 (
 .region [2,3,4] [.norm [2,3]] [
 ⟨some 12,none,.mv false (.s 4)⟩,
 ⟨some 13,none,.mv false (.s 0)⟩,
 ⟨some 14,none,.mv false (.s 4)⟩,
 ⟨some 15,none,.bin .mul (.c (i64 4)) (.s 14)⟩,
 ⟨some 16,none,.idxSl 1 (.s 13) (.s 15)⟩,
 ⟨some 17,none,.load none none false (.s 16)⟩,
 ⟨some 18,none,.toInt .u32 (.s 17)⟩,
 ⟨some 19,none,.bin .shl (.s 18) (.c (u64 24))⟩,
 ⟨some 20,none,.mv false (.s 0)⟩,
 ⟨some 21,none,.mv false (.s 4)⟩,
 ⟨some 22,none,.bin .mul (.c (i64 4)) (.s 21)⟩,
 ⟨some 23,none,.bin .add (.s 22) (.c (i64 1))⟩,
 ⟨some 24,none,.idxSl 1 (.s 20) (.s 23)⟩,
 ⟨some 25,none,.load none none false (.s 24)⟩,
 ⟨some 26,none,.toInt .u32 (.s 25)⟩,
 ⟨some 27,none,.bin .shl (.s 26) (.c (u64 16))⟩,
 ⟨some 28,none,.bin .or (.s 19) (.s 27)⟩,
 ⟨some 29,none,.mv false (.s 0)⟩,
 ⟨some 30,none,.mv false (.s 4)⟩,
 ⟨some 31,none,.bin .mul (.c (i64 4)) (.s 30)⟩,
 ⟨some 32,none,.bin .add (.s 31) (.c (i64 2))⟩,
 ⟨some 33,none,.idxSl 1 (.s 29) (.s 32)⟩,
 ⟨some 34,none,.load none none false (.s 33)⟩,
 ⟨some 35,none,.toInt .u32 (.s 34)⟩,
 ⟨some 36,none,.bin .shl (.s 35) (.c (u64 8))⟩,
 ⟨some 37,none,.bin .or (.s 28) (.s 36)⟩,
 ⟨some 38,none,.mv false (.s 0)⟩,
 ⟨some 39,none,.mv false (.s 4)⟩,
 ⟨some 40,none,.bin .mul (.c (i64 4)) (.s 39)⟩,
 ⟨some 41,none,.bin .add (.s 40) (.c (i64 3))⟩,
 ⟨some 42,none,.idxSl 1 (.s 38) (.s 41)⟩,
 ⟨some 43,none,.load none none false (.s 42)⟩,
 ⟨some 44,none,.toInt .u32 (.s 43)⟩,
 ⟨some 45,none,.bin .or (.s 37) (.s 44)⟩,
 ⟨some 46,none,.idxArr 64 1 (.s 3) (.s 12)⟩,
 ⟨none,none,.store none 3 false (.s 46) (.s 45)⟩])) (
 .region [2,3,4] [] [
 ⟨some 10,none,.mv false (.s 4)⟩,
 ⟨some 11,none,.bin .add (.s 10) (.c (i64 1))⟩,
 ⟨some 4,none,.mv false (.s 11)⟩])))))) (
 .seq (
 .seq (
 .region [2,3,5] [] [
 ⟨some 5,none,.mv false (.c (i64 16))⟩]) (
 .block 2 (
 .loop (
 .seq (
 .seq (
 .region [2,3,5,48] [] [
 ⟨some 47,none,.mv false (.s 5)⟩,
 ⟨some 48,none,.bin .lss (.s 47) (.c (i64 64))⟩]) (
 .cond (.s 48) (
 .ghost (.keep [2,3,5]) .skip) (
 .ghost (.keep [2,3]) (.exit 2)))) (
 .seq (
 .block 3 (
 .seq (
 .region [2,3,5,6] [.norm [2,3]] [
 ⟨some 51,none,.mv false (.s 5)⟩,
 ⟨some 52,none,.bin .sub (.s 51) (.c (i64 15))⟩,
 ⟨some 53,none,.idxArr 64 1 (.s 3) (.s 52)⟩,
 ⟨some 54,none,.load none (some 3) false (.s 53)⟩,
 ⟨some 55,none,.call 26 [(.s 54),(.c (i64 7))] []⟩,
 ⟨some 56,none,.mv false (.s 5)⟩,
 ⟨some 57,none,.bin .sub (.s 56) (.c (i64 15))⟩,
 ⟨some 58,none,.idxArr 64 1 (.s 3) (.s 57)⟩,
 ⟨some 59,none,.load none (some 3) false (.s 58)⟩,
 ⟨some 60,none,.call 26 [(.s 59),(.c (i64 18))] []⟩,
 ⟨some 61,none,.bin .xor (.s 55) (.s 60)⟩,
 ⟨some 62,none,.mv false (.s 5)⟩,
 ⟨some 63,none,.bin .sub (.s 62) (.c (i64 15))⟩,
 ⟨some 64,none,.idxArr 64 1 (.s 3) (.s 63)⟩,
 ⟨some 65,none,.load none (some 3) false (.s 64)⟩,
 ⟨some 66,none,.bin .shr (.s 65) (.c (u64 3))⟩,
 ⟨some 67,none,.bin .xor (.s 61) (.s 66)⟩,
 ⟨some 6,none,.mv false (.s 67)⟩]) (
 .seq (
 .region [2,3,5,6,7] [.norm [2,3]] [
 ⟨some 68,none,.mv false (.s 5)⟩,
 ⟨some 69,none,.bin .sub (.s 68) (.c (i64 2))⟩,
 ⟨some 70,none,.idxArr 64 1 (.s 3) (.s 69)⟩,
 ⟨some 71,none,.load none (some 3) false (.s 70)⟩,
 ⟨some 72,none,.call 26 [(.s 71),(.c (i64 17))] []⟩,
 ⟨some 73,none,.mv false (.s 5)⟩,
 ⟨some 74,none,.bin .sub (.s 73) (.c (i64 2))⟩,
 ⟨some 75,none,.idxArr 64 1 (.s 3) (.s 74)⟩,
 ⟨some 76,none,.load none (some 3) false (.s 75)⟩,
 ⟨some 77,none,.call 26 [(.s 76),(.c (i64 19))] []⟩,
 ⟨some 78,none,.bin .xor (.s 72) (.s 77)⟩,
 ⟨some 79,none,.mv false (.s 5)⟩,
 ⟨some 80,none,.bin .sub (.s 79) (.c (i64 2))⟩,
 ⟨some 81,none,.idxArr 64 1 (.s 3) (.s 80)⟩,
 ⟨some 82,none,.load none (some 3) false (.s 81)⟩,
 ⟨some 83,none,.bin .shr (.s 82) (.c (u64 10))⟩,
 ⟨some 84,none,.bin .xor (.s 78) (.s 83)⟩,
 ⟨some 7,none,.mv false (.s 84)⟩]) (
 .region [2,3,5] [.norm [2,3]] [
 ⟨some 85,none,.mv false (.s 5)⟩,
 ⟨some 86,none,.mv false (.s 5)⟩,
 ⟨some 87,none,.bin .sub (.s 86) (.c (i64 16))⟩,
 ⟨some 88,none,.idxArr 64 1 (.s 3) (.s 87)⟩,
 ⟨some 89,none,.load none (some 3) false (.s 88)⟩,
 ⟨some 90,none,.mv false (.s 6)⟩,
 ⟨some 91,none,.bin .add (.s 89) (.s 90)⟩,
 ⟨some 92,none,.mv false (.s 5)⟩,
 ⟨some 93,none,.bin .sub (.s 92) (.c (i64 7))⟩,
 ⟨some 94,none,.idxArr 64 1 (.s 3) (.s 93)⟩,
 ⟨some 95,none,.load none (some 3) false (.s 94)⟩,
 ⟨some 96,none,.bin .add (.s 91) (.s 95)⟩,
 ⟨some 97,none,.mv false (.s 7)⟩,
 ⟨some 98,none,.bin .add (.s 96) (.s 97)⟩,
 ⟨some 99,none,.idxArr 64 1 (.s 3) (.s 85)⟩,
 ⟨none,none,.store none 3 false (.s 99) (.s 98)⟩])))) (
 .region [2,3,5] [] [
 ⟨some 49,none,.mv false (.s 5)⟩,
 ⟨some 50,none,.bin .add (.s 49) (.c (i64 1))⟩,
 ⟨some 5,none,.mv false (.s 50)⟩])))))) (
 .seq (
 .region [2] [.norm [2,3]] [
 ⟨some 100,none,.load (some 64) (some 3) false (.s 3)⟩,
 ⟨none,none,.store (some 64) 2 false (.s 2) (.s 100)⟩]) (
 .ret)))))}

def z5i:z2p:=
 {n:=2,wr:=[],res:=[.t 4],body:=
 .seq (
 .region [] [] [
 ⟨some 4,none,.mv false (.c (u32 0))⟩]) (
 .seq (
 .region [4] [] [
 ⟨some 5,none,.mv false (.s 0)⟩,
 ⟨some 6,none,.mv false (.s 1)⟩,
 ⟨some 7,none,.bin .shr (.s 5) (.s 6)⟩,
 ⟨some 8,none,.mv false (.s 0)⟩,
 ⟨some 9,none,.mv false (.s 1)⟩,
 ⟨some 10,none,.bin .sub (.c (i64 32)) (.s 9)⟩,
 ⟨some 11,none,.bin .shl (.s 8) (.s 10)⟩,
 ⟨some 12,none,.bin .or (.s 7) (.s 11)⟩,
 ⟨some 4,none,.mv false (.s 12)⟩]) (
 .ret))}

def z9f:z2p:=
 {n:=2,wr:=[],res:=[.t 4],body:=
 .seq (
 .region [] [] [
 ⟨some 4,none,.mv true (.c (.sl (.own 1) none 0 []))⟩]) (
 .seq (
 .region [5] [] [
 ⟨some 9,none,.mv false (.s 0)⟩,
 ⟨some 5,none,.mv false (.s 9)⟩]) (
 .seq (
 .seq (
 .region [5,12] [] [
 ⟨some 10,none,.mv false (.s 0)⟩,
 ⟨some 11,none,.len true (.s 10)⟩,
 ⟨some 12,none,.bin .gtr (.s 11) (.c (i64 64))⟩]) (
 .cond (.s 12) (
 .region [5] [] [
 ⟨some 13,none,.mv false (.s 0)⟩,
 ⟨some 14,none,.toBytes (.s 13)⟩,
 ⟨some 15,none,.call 15 [(.s 14)] []⟩,
 ⟨some 16,none,.call 19 [(.s 15)] []⟩,
 ⟨some 5,none,.mv false (.s 16)⟩]) (
 .ghost (.keep [5]) .skip))) (
 .seq (
 .region [5,6] [] [
 ⟨some 6,none,.mv true (.c (.sl (.own 1) none 0 []))⟩]) (
 .seq (
 .seq (
 .region [5,6,7] [] [
 ⟨some 7,none,.mv false (.c (i64 0))⟩]) (
 .block 0 (
 .loop (
 .seq (
 .seq (
 .region [5,6,7,18] [] [
 ⟨some 17,none,.mv false (.s 7)⟩,
 ⟨some 18,none,.bin .lss (.s 17) (.c (i64 64))⟩]) (
 .cond (.s 18) (
 .ghost (.keep [5,6,7]) .skip) (
 .ghost (.keep [6]) (.exit 0)))) (
 .seq (
 .block 1 (
 .seq (
 .region [5,6,7,8] [] [
 ⟨some 8,none,.mv false (.c (u8 0))⟩]) (
 .seq (
 .seq (
 .region [5,6,7,8,24] [] [
 ⟨some 21,none,.mv false (.s 7)⟩,
 ⟨some 22,none,.mv false (.s 5)⟩,
 ⟨some 23,none,.len true (.s 22)⟩,
 ⟨some 24,none,.bin .lss (.s 21) (.s 23)⟩]) (
 .cond (.s 24) (
 .region [5,6,7,8] [] [
 ⟨some 25,none,.mv false (.s 5)⟩,
 ⟨some 26,none,.mv false (.s 7)⟩,
 ⟨some 27,none,.idxStr (.s 25) (.s 26)⟩,
 ⟨some 8,none,.mv false (.s 27)⟩]) (
 .ghost (.keep [5,6,7,8]) .skip))) (
 .region [5,6,7] [] [
 ⟨some 28,none,.mv true (.s 6)⟩,
 ⟨some 29,none,.mv false (.s 8)⟩,
 ⟨some 30,none,.mv false (.s 1)⟩,
 ⟨some 31,none,.bin .xor (.s 29) (.s 30)⟩,
 ⟨some 32,none,.buildSl 1 1 [u8 0] [(0,1,(.s 31))]⟩,
 ⟨some 33,none,.append 1 1 false none none 28 (.s 32)⟩,
 ⟨some 6,none,.mv true (.s 33)⟩])))) (
 .region [5,6,7] [] [
 ⟨some 19,none,.mv false (.s 7)⟩,
 ⟨some 20,none,.bin .add (.s 19) (.c (i64 1))⟩,
 ⟨some 7,none,.mv false (.s 20)⟩])))))) (
 .seq (
 .region [4] [] [
 ⟨some 34,none,.mv true (.s 6)⟩,
 ⟨some 4,none,.mv true (.s 34)⟩]) (
 .ret))))))}

def z9g:z2p:=
 {n:=1,wr:=[],res:=[.t 2],body:=
 .seq (
 .region [] [] [
 ⟨some 2,none,.mv true (.c (.sl (.own 1) none 0 []))⟩]) (
 .seq (
 .region [2] [] [
 ⟨some 3,none,.mv false (.s 0)⟩,
 ⟨some 4,none,.len true (.s 3)⟩,
 ⟨some 5,none,.call 30 [(.s 4)] []⟩,
 ⟨some 6,none,.mv false (.s 0)⟩,
 ⟨some 7,none,.toBytes (.s 6)⟩,
 ⟨some 8,none,.append 1 1 false none none 5 (.s 7)⟩,
 ⟨some 2,none,.mv true (.s 8)⟩]) (
 .ret))}

end Go.Abs
end

section
namespace Go.Abs
set_option maxRecDepth 100000
def z9F:z9a:=
 .seq (
 .block 3 (
 .seq (
 .region [2,3,4,5,6,7,8,9] [.norm [2,3,6,7]] [
 ⟨some 34,none,.idxArr 8 1 (.s 7) (.c (i64 7))⟩,
 ⟨some 35,none,.load none (some 7) false (.s 34)⟩,
 ⟨some 36,none,.idxArr 8 1 (.s 7) (.c (i64 4))⟩,
 ⟨some 37,none,.load none (some 7) false (.s 36)⟩,
 ⟨some 38,none,.call 26 [(.s 37),(.c (i64 6))] []⟩,
 ⟨some 39,none,.idxArr 8 1 (.s 7) (.c (i64 4))⟩,
 ⟨some 40,none,.load none (some 7) false (.s 39)⟩,
 ⟨some 41,none,.call 26 [(.s 40),(.c (i64 11))] []⟩,
 ⟨some 42,none,.bin .xor (.s 38) (.s 41)⟩,
 ⟨some 43,none,.idxArr 8 1 (.s 7) (.c (i64 4))⟩,
 ⟨some 44,none,.load none (some 7) false (.s 43)⟩,
 ⟨some 45,none,.call 26 [(.s 44),(.c (i64 25))] []⟩,
 ⟨some 46,none,.bin .xor (.s 42) (.s 45)⟩,
 ⟨some 47,none,.bin .add (.s 35) (.s 46)⟩,
 ⟨some 48,none,.idxArr 8 1 (.s 7) (.c (i64 4))⟩,
 ⟨some 49,none,.load none (some 7) false (.s 48)⟩,
 ⟨some 50,none,.idxArr 8 1 (.s 7) (.c (i64 5))⟩,
 ⟨some 51,none,.load none (some 7) false (.s 50)⟩,
 ⟨some 52,none,.bin .and (.s 49) (.s 51)⟩,
 ⟨some 53,none,.idxArr 8 1 (.s 7) (.c (i64 4))⟩,
 ⟨some 54,none,.load none (some 7) false (.s 53)⟩,
 ⟨some 55,none,.bin .xor (.s 54) (.c (u32 4294967295))⟩,
 ⟨some 56,none,.idxArr 8 1 (.s 7) (.c (i64 6))⟩,
 ⟨some 57,none,.load none (some 7) false (.s 56)⟩,
 ⟨some 58,none,.bin .and (.s 55) (.s 57)⟩,
 ⟨some 59,none,.bin .xor (.s 52) (.s 58)⟩,
 ⟨some 60,none,.bin .add (.s 47) (.s 59)⟩,
 ⟨some 61,none,.mv false (.s 8)⟩,
 ⟨some 62,none,.idxArr 64 1 (.g 1) (.s 61)⟩,
 ⟨some 63,none,.load none none false (.s 62)⟩,
 ⟨some 64,none,.bin .add (.s 60) (.s 63)⟩,
 ⟨some 65,none,.mv false (.s 8)⟩,
 ⟨some 66,none,.idxArr 64 1 (.s 6) (.s 65)⟩,
 ⟨some 67,none,.load none (some 6) false (.s 66)⟩,
 ⟨some 68,none,.bin .add (.s 64) (.s 67)⟩,
 ⟨some 9,none,.mv false (.s 68)⟩]) (
 .seq (
 .region [2,3,4,5,6,7,8,9,10] [.norm [2,3,6,7]] [
 ⟨some 69,none,.idxArr 8 1 (.s 7) (.c (i64 0))⟩,
 ⟨some 70,none,.load none (some 7) false (.s 69)⟩,
 ⟨some 71,none,.call 26 [(.s 70),(.c (i64 2))] []⟩,
 ⟨some 72,none,.idxArr 8 1 (.s 7) (.c (i64 0))⟩,
 ⟨some 73,none,.load none (some 7) false (.s 72)⟩,
 ⟨some 74,none,.call 26 [(.s 73),(.c (i64 13))] []⟩,
 ⟨some 75,none,.bin .xor (.s 71) (.s 74)⟩,
 ⟨some 76,none,.idxArr 8 1 (.s 7) (.c (i64 0))⟩,
 ⟨some 77,none,.load none (some 7) false (.s 76)⟩,
 ⟨some 78,none,.call 26 [(.s 77),(.c (i64 22))] []⟩,
 ⟨some 79,none,.bin .xor (.s 75) (.s 78)⟩,
 ⟨some 80,none,.idxArr 8 1 (.s 7) (.c (i64 0))⟩,
 ⟨some 81,none,.load none (some 7) false (.s 80)⟩,
 ⟨some 82,none,.idxArr 8 1 (.s 7) (.c (i64 1))⟩,
 ⟨some 83,none,.load none (some 7) false (.s 82)⟩,
 ⟨some 84,none,.bin .and (.s 81) (.s 83)⟩,
 ⟨some 85,none,.idxArr 8 1 (.s 7) (.c (i64 0))⟩,
 ⟨some 86,none,.load none (some 7) false (.s 85)⟩,
 ⟨some 87,none,.idxArr 8 1 (.s 7) (.c (i64 2))⟩,
 ⟨some 88,none,.load none (some 7) false (.s 87)⟩,
 ⟨some 89,none,.bin .and (.s 86) (.s 88)⟩,
 ⟨some 90,none,.bin .xor (.s 84) (.s 89)⟩,
 ⟨some 91,none,.idxArr 8 1 (.s 7) (.c (i64 1))⟩,
 ⟨some 92,none,.load none (some 7) false (.s 91)⟩,
 ⟨some 93,none,.idxArr 8 1 (.s 7) (.c (i64 2))⟩,
 ⟨some 94,none,.load none (some 7) false (.s 93)⟩,
 ⟨some 95,none,.bin .and (.s 92) (.s 94)⟩,
 ⟨some 96,none,.bin .xor (.s 90) (.s 95)⟩,
 ⟨some 97,none,.bin .add (.s 79) (.s 96)⟩,
 ⟨some 10,none,.mv false (.s 97)⟩]) (
 .region [2,3,4,5,6,7,8] [.norm [2,3,6,7]] [
 ⟨some 98,none,.mv false (.s 9)⟩,
 ⟨some 99,none,.mv false (.s 10)⟩,
 ⟨some 100,none,.bin .add (.s 98) (.s 99)⟩,
 ⟨some 101,none,.idxArr 8 1 (.s 7) (.c (i64 0))⟩,
 ⟨some 102,none,.load none (some 7) false (.s 101)⟩,
 ⟨some 103,none,.idxArr 8 1 (.s 7) (.c (i64 1))⟩,
 ⟨some 104,none,.load none (some 7) false (.s 103)⟩,
 ⟨some 105,none,.idxArr 8 1 (.s 7) (.c (i64 2))⟩,
 ⟨some 106,none,.load none (some 7) false (.s 105)⟩,
 ⟨some 107,none,.idxArr 8 1 (.s 7) (.c (i64 3))⟩,
 ⟨some 108,none,.load none (some 7) false (.s 107)⟩,
 ⟨some 109,none,.mv false (.s 9)⟩,
 ⟨some 110,none,.bin .add (.s 108) (.s 109)⟩,
 ⟨some 111,none,.idxArr 8 1 (.s 7) (.c (i64 4))⟩,
 ⟨some 112,none,.load none (some 7) false (.s 111)⟩,
 ⟨some 113,none,.idxArr 8 1 (.s 7) (.c (i64 5))⟩,
 ⟨some 114,none,.load none (some 7) false (.s 113)⟩,
 ⟨some 115,none,.idxArr 8 1 (.s 7) (.c (i64 6))⟩,
 ⟨some 116,none,.load none (some 7) false (.s 115)⟩,
 ⟨some 117,none,.build [u32 0,u32 0,u32 0,u32 0,u32 0,u32 0,u32 0,u32 0] [(0,1,(.s 100)),(1,1,(.s 102)),(2,1,(.s 104)),(3,1,(.s 106)),(4,1,(.s 110)),(5,1,(.s 112)),(6,1,(.s 114)),(7,1,(.s 116))]⟩,
 ⟨none,none,.store (some 8) 7 false (.s 7) (.s 117)⟩])))) (
 .region [2,3,4,5,6,7,8] [] [
 ⟨some 32,none,.mv false (.s 8)⟩,
 ⟨some 33,none,.bin .add (.s 32) (.c (i64 1))⟩,
 ⟨some 8,none,.mv false (.s 33)⟩])
def z5I:z9a:=
 .seq (
 .seq (
 .region [2,3,4,5,6,7,8,31] [] [
 ⟨some 30,none,.mv false (.s 8)⟩,
 ⟨some 31,none,.bin .lss (.s 30) (.c (i64 64))⟩]) (
 .cond (.s 31) (
 .ghost (.keep [2,3,4,5,6,7,8]) .skip) (
 .ghost (.keep [2,3,4,5,7]) (.exit 2)))) (
 z9F)
def z9H:z9a:=
 .seq (
 .block 5 (
 .region [2,3,4,5,7,11] [.norm [2,3,6,7]] [
 ⟨some 122,none,.mv false (.s 11)⟩,
 ⟨some 123,none,.mv false (.s 11)⟩,
 ⟨some 124,none,.idxArr 8 1 (.s 3) (.s 123)⟩,
 ⟨some 125,none,.load none (some 3) false (.s 124)⟩,
 ⟨some 126,none,.mv false (.s 11)⟩,
 ⟨some 127,none,.idxArr 8 1 (.s 7) (.s 126)⟩,
 ⟨some 128,none,.load none (some 7) false (.s 127)⟩,
 ⟨some 129,none,.bin .add (.s 125) (.s 128)⟩,
 ⟨some 130,none,.idxArr 8 1 (.s 3) (.s 122)⟩,
 ⟨none,none,.store none 3 false (.s 130) (.s 129)⟩])) (
 .region [2,3,4,5,7,11] [] [
 ⟨some 120,none,.mv false (.s 11)⟩,
 ⟨some 121,none,.bin .add (.s 120) (.c (i64 1))⟩,
 ⟨some 11,none,.mv false (.s 121)⟩])
def z8I:z9a:=
 .seq (
 .seq (
 .region [2,3,4,5,7,11,119] [] [
 ⟨some 118,none,.mv false (.s 11)⟩,
 ⟨some 119,none,.bin .lss (.s 118) (.c (i64 8))⟩]) (
 .cond (.s 119) (
 .ghost (.keep [2,3,4,5,7,11]) .skip) (
 .ghost (.keep [2,3,4,5]) (.exit 4)))) (
 z9H)
def z5G:z9a:=
 .seq (
 .region [2,3,4,5,7,11] [] [
 ⟨some 11,none,.mv false (.c (i64 0))⟩]) (
 .block 4 (
 .loop z8I))
def z4H:z9a:=
 .seq (
 .block 1 (
 .seq (
 .region [2,3,4,5,6] [.norm [2,3,6]] [
 ⟨some 23,none,.mv false (.s 4)⟩,
 ⟨some 24,none,.mv false (.s 5)⟩,
 ⟨some 25,none,.mv false (.s 5)⟩,
 ⟨some 26,none,.bin .add (.s 25) (.c (i64 64))⟩,
 ⟨some 27,none,.slSl 1 (.s 23) (some (.s 24)) (some (.s 26)) none⟩,
 ⟨some 28,none,.call 25 [(.s 27)] []⟩,
 ⟨some 6,none,.alloc 6 (z3o (z3k 64))⟩,
 ⟨none,none,.store (some 64) 6 false (.s 6) (.s 28)⟩]) (
 .seq (
 .region [2,3,4,5,6,7] [.norm [2,3,6,7]] [
 ⟨some 29,none,.load (some 8) (some 3) false (.s 3)⟩,
 ⟨some 7,none,.alloc 7 (z3o (z3k 8))⟩,
 ⟨none,none,.store (some 8) 7 false (.s 7) (.s 29)⟩]) (
 .seq (
 .seq (
 .region [2,3,4,5,6,7,8] [] [
 ⟨some 8,none,.mv false (.c (i64 0))⟩]) (
 .block 2 (
 .loop z5I))) (
 z5G))))) (
 .region [2,3,4,5] [.drop [6,7]] [
 ⟨some 21,none,.mv false (.s 5)⟩,
 ⟨some 22,none,.bin .add (.s 21) (.c (i64 64))⟩,
 ⟨some 5,none,.mv false (.s 22)⟩])
def z0I:z9a:=
 .seq (
 .seq (
 .region [2,3,4,5,20] [] [
 ⟨some 17,none,.mv false (.s 5)⟩,
 ⟨some 18,none,.mv false (.s 4)⟩,
 ⟨some 19,none,.len false (.s 18)⟩,
 ⟨some 20,none,.bin .lss (.s 17) (.s 19)⟩]) (
 .cond (.s 20) (
 .ghost (.keep [2,3,4,5]) .skip) (
 .ghost (.keep [2,3]) (.exit 0)))) (
 z4H)
def z7F:z9a:=
 .seq (
 .block 7 (
 .region [2,3,12,13] [.norm [2,3,6,7,12]] [
 ⟨some 135,none,.mv false (.s 13)⟩,
 ⟨some 136,none,.mv false (.s 13)⟩,
 ⟨some 137,none,.bin .quo (.s 136) (.c (i64 4))⟩,
 ⟨some 138,none,.idxArr 8 1 (.s 3) (.s 137)⟩,
 ⟨some 139,none,.load none (some 3) false (.s 138)⟩,
 ⟨some 140,none,.mv false (.s 13)⟩,
 ⟨some 141,none,.bin .rem (.s 140) (.c (i64 4))⟩,
 ⟨some 142,none,.bin .mul (.c (i64 8)) (.s 141)⟩,
 ⟨some 143,none,.bin .sub (.c (i64 24)) (.s 142)⟩,
 ⟨some 144,none,.bin .shr (.s 139) (.s 143)⟩,
 ⟨some 145,none,.toInt .u8 (.s 144)⟩,
 ⟨some 146,none,.idxArr 32 1 (.s 12) (.s 135)⟩,
 ⟨none,none,.store none 12 false (.s 146) (.s 145)⟩])) (
 .region [2,3,12,13] [] [
 ⟨some 133,none,.mv false (.s 13)⟩,
 ⟨some 134,none,.bin .add (.s 133) (.c (i64 1))⟩,
 ⟨some 13,none,.mv false (.s 134)⟩])
def z7G:z9a:=
 .seq (
 .seq (
 .region [2,3,12,13,132] [] [
 ⟨some 131,none,.mv false (.s 13)⟩,
 ⟨some 132,none,.bin .lss (.s 131) (.c (i64 32))⟩]) (
 .cond (.s 132) (
 .ghost (.keep [2,3,12,13]) .skip) (
 .ghost (.keep [2,12]) (.exit 6)))) (
 z7F)
def z4J:z9a:=
 .seq (
 .region [2] [.norm [2,3,6,7,12]] [
 ⟨some 147,none,.load (some 32) (some 12) false (.s 12)⟩,
 ⟨none,none,.store (some 32) 2 false (.s 2) (.s 147)⟩]) (
 .ret)
def z0J:z9a:=
 .seq (
 .region [2,3,12] [.norm [2,3,6,7,12]] [
 ⟨some 12,none,.alloc 12 (bys (z9m 32))⟩]) (
 .seq (
 .seq (
 .region [2,3,12,13] [] [
 ⟨some 13,none,.mv false (.c (i64 0))⟩]) (
 .block 6 (
 .loop z7G))) (
 z4J))
def z4j:z2p:=
 {n:=1,wr:=[],res:=[.cell 2 (some 32) 2],body:=
 .seq (
 .region [2] [.norm [2]] [
 ⟨some 2,none,.alloc 2 (bys (z9m 32))⟩]) (
 .seq (
 .region [2,3] [.norm [2,3]] [
 ⟨some 14,none,.build [u32 0,u32 0,u32 0,u32 0,u32 0,u32 0,u32 0,u32 0] [(0,1,(.c (u32 1779033703))),(1,1,(.c (u32 3144134277))),(2,1,(.c (u32 1013904242))),(3,1,(.c (u32 2773480762))),(4,1,(.c (u32 1359893119))),(5,1,(.c (u32 2600822924))),(6,1,(.c (u32 528734635))),(7,1,(.c (u32 1541459225)))]⟩,
 ⟨some 3,none,.alloc 3 (z3o (z3k 8))⟩,
 ⟨none,none,.store (some 8) 3 false (.s 3) (.s 14)⟩]) (
 .seq (
 .region [2,3,4] [] [
 ⟨some 15,none,.mv false (.s 0)⟩,
 ⟨some 16,none,.call 24 [(.s 15)] []⟩,
 ⟨some 4,none,.mv true (.s 16)⟩]) (
 .seq (
 .seq (
 .region [2,3,4,5] [] [
 ⟨some 5,none,.mv false (.c (i64 0))⟩]) (
 .block 0 (
 .loop z0I))) (
 z0J))))}

def z5F:z9a:=
 .block 1 (
 .seq (
 .region [3,4] [] [
 ⟨some 16,none,.mv true (.s 4)⟩,
 ⟨some 17,none,.mv false (.s 3)⟩,
 ⟨some 18,none,.bin .rem (.s 17) (.c (i64 256))⟩,
 ⟨some 19,none,.toInt .u8 (.s 18)⟩,
 ⟨some 20,none,.buildSl 1 1 [u8 0] [(0,1,(.s 19))]⟩,
 ⟨some 21,none,.append 1 1 false none none 16 (.s 20)⟩,
 ⟨some 4,none,.mv true (.s 21)⟩]) (
 .region [3,4] [] [
 ⟨some 22,none,.mv false (.s 3)⟩,
 ⟨some 23,none,.bin .quo (.s 22) (.c (i64 256))⟩,
 ⟨some 3,none,.mv false (.s 23)⟩]))
def z3G:z9a:=
 .seq (
 .seq (
 .region [3,4,15] [] [
 ⟨some 14,none,.mv false (.s 3)⟩,
 ⟨some 15,none,.bin .gtr (.s 14) (.c (i64 0))⟩]) (
 .cond (.s 15) (
 .ghost (.keep [3,4]) .skip) (
 .ghost (.keep [4]) (.exit 0)))) (
 z5F)
def z2J:z9a:=
 .region [4,6,7] [] [
 ⟨some 54,none,.mv true (.s 6)⟩,
 ⟨some 55,none,.mv false (.s 8)⟩,
 ⟨some 56,none,.buildSl 1 1 [u8 0] [(0,1,(.s 55))]⟩,
 ⟨some 57,none,.append 1 1 false none none 54 (.s 56)⟩,
 ⟨some 6,none,.mv true (.s 57)⟩]
def z6I:z9a:=
 .seq (
 .block 3 (
 .seq (
 .region [4,6,7,8] [] [
 ⟨some 46,none,.mv false (.s 4)⟩,
 ⟨some 47,none,.mv false (.s 7)⟩,
 ⟨some 48,none,.idxSl 1 (.s 46) (.s 47)⟩,
 ⟨some 49,none,.load none none false (.s 48)⟩,
 ⟨some 8,none,.mv false (.s 49)⟩]) (
 .seq (
 .seq (
 .region [4,6,7,8,51] [] [
 ⟨some 50,none,.mv false (.s 0)⟩,
 ⟨some 51,none,.bin .lss (.s 50) (.c (i64 0))⟩]) (
 .cond (.s 51) (
 .region [4,6,7,8] [] [
 ⟨some 52,none,.mv false (.s 8)⟩,
 ⟨some 53,none,.bin .sub (.c (u8 255)) (.s 52)⟩,
 ⟨some 8,none,.mv false (.s 53)⟩]) (
 .ghost (.keep [4,6,7,8]) .skip))) (
 z2J)))) (
 .region [4,6,7] [] [
 ⟨some 44,none,.mv false (.s 7)⟩,
 ⟨some 45,none,.bin .sub (.s 44) (.c (i64 1))⟩,
 ⟨some 7,none,.mv false (.s 45)⟩])
def z0G:z9a:=
 .seq (
 .seq (
 .region [4,6,7,43] [] [
 ⟨some 42,none,.mv false (.s 7)⟩,
 ⟨some 43,none,.bin .geq (.s 42) (.c (i64 0))⟩]) (
 .cond (.s 43) (
 .ghost (.keep [4,6,7]) .skip) (
 .ghost (.keep [6]) (.exit 2)))) (
 z6I)
def z3H:z9a:=
 .seq (
 .region [2] [] [
 ⟨some 58,none,.mv true (.s 6)⟩,
 ⟨some 2,none,.mv true (.s 58)⟩]) (
 .ret)
def z4G:z9a:=
 .seq (
 .seq (
 .region [4,6,7] [] [
 ⟨some 40,none,.mv false (.s 5)⟩,
 ⟨some 41,none,.bin .sub (.s 40) (.c (i64 1))⟩,
 ⟨some 7,none,.mv false (.s 41)⟩]) (
 .block 2 (
 .loop z0G))) (
 z3H)
def z8F:z9a:=
 .seq (
 .region [4,5] [] [
 ⟨some 24,none,.mv false (.s 4)⟩,
 ⟨some 25,none,.len false (.s 24)⟩,
 ⟨some 5,none,.mv false (.s 25)⟩]) (
 .seq (
 .region [4,5,6] [] [
 ⟨some 6,none,.mv true (.c (.sl (.own 1) none 0 []))⟩]) (
 .seq (
 .seq (
 .region [4,5,6,27] [] [
 ⟨some 26,none,.mv false (.s 0)⟩,
 ⟨some 27,none,.bin .geq (.s 26) (.c (i64 0))⟩]) (
 .cond (.s 27) (
 .region [4,5,6] [] [
 ⟨some 28,none,.mv true (.s 6)⟩,
 ⟨some 29,none,.mv false (.s 5)⟩,
 ⟨some 30,none,.bin .add (.c (i64 128)) (.s 29)⟩,
 ⟨some 31,none,.toInt .u8 (.s 30)⟩,
 ⟨some 32,none,.buildSl 1 1 [u8 0] [(0,1,(.s 31))]⟩,
 ⟨some 33,none,.append 1 1 false none none 28 (.s 32)⟩,
 ⟨some 6,none,.mv true (.s 33)⟩]) (
 .region [4,5,6] [] [
 ⟨some 34,none,.mv true (.s 6)⟩,
 ⟨some 35,none,.mv false (.s 5)⟩,
 ⟨some 36,none,.bin .sub (.c (i64 127)) (.s 35)⟩,
 ⟨some 37,none,.toInt .u8 (.s 36)⟩,
 ⟨some 38,none,.buildSl 1 1 [u8 0] [(0,1,(.s 37))]⟩,
 ⟨some 39,none,.append 1 1 false none none 34 (.s 38)⟩,
 ⟨some 6,none,.mv true (.s 39)⟩]))) (
 z4G)))
def z1H:z9a:=
 .seq (
 .region [3,4] [] [
 ⟨some 4,none,.mv true (.c (.sl (.own 1) none 0 []))⟩]) (
 .seq (
 .block 0 (
 .loop z3G)) (
 z8F))
def z6j:z2p:=
 {n:=1,wr:=[],res:=[.t 2],body:=
 .seq (
 .region [] [] [
 ⟨some 2,none,.mv true (.c (.sl (.own 1) none 0 []))⟩]) (
 .seq (
 .region [3] [] [
 ⟨some 9,none,.mv false (.s 0)⟩,
 ⟨some 3,none,.mv false (.s 9)⟩]) (
 .seq (
 .seq (
 .region [3,11] [] [
 ⟨some 10,none,.mv false (.s 0)⟩,
 ⟨some 11,none,.bin .lss (.s 10) (.c (i64 0))⟩]) (
 .cond (.s 11) (
 .region [3] [] [
 ⟨some 12,none,.mv false (.s 0)⟩,
 ⟨some 13,none,.bin .sub (.c (i64 (-1))) (.s 12)⟩,
 ⟨some 3,none,.mv false (.s 13)⟩]) (
 .ghost (.keep [3]) .skip))) (
 z1H)))}

end Go.Abs
end

section
namespace Go.Abs
theorem z0Ib (E:Env):∀ds,z0qa.pre ds→ds.length=z5i.n∧awp E z5i.body (z2q z5i.res (z0qa.post ds)) (z9b z5i.wr ds):=by
 rintro _ ⟨x,n,h0,h1,rfl⟩
 simp(maxSteps:=1000000) (disch:=first|omega|(simp;done)|(simp;omega)) [z8a,z1a,z0a,z5i]
 refine⟨by omega,by omega,?_⟩
 rw[z01,show((32:Int)-n).toNat=32-n.toNat by omega]
theorem z9fb (E:Env):∀ds,z1S.pre ds→ds.length=z0f.n∧awp E z0f.body (z2q z0f.res (z1S.post ds)) (z9b z0f.wr ds):=by
 rintro _ ⟨b,hb,rfl⟩
 simp(maxSteps:=1000000) (disch:=first|omega|(simp;done)|(simp;omega)) [z8a,z1a,z0a,z0f,hb]
 refine z7a fun Q0 hQ0=> ?_
 refine z4f (fun i:Nat=>⟨[(0,.agg (bys b))],[(1,.bp 1 0),(3,.sl (.own 1) none i (bys (b.take i))),(4,i64 i)],[(1,some (bys b))]⟩) (fun i=>32-i) (· ≤32) 0 rfl (by simp) fun i hi=> ?_
 refine z7a fun Q1 hQ1=> ?_
 simp(maxSteps:=1000000) (disch:=first|omega|(simp;done)|(simp;omega)) [z8a,z1a,z0a]
 rw[z3e]
 refine⟨by simp,fun h=> ?_,fun h=> ?_⟩<;>simp at h
 ·have hi':i<b.length:=by omega
  simp(maxSteps:=1000000) (disch:=first|omega|(simp;done)|(simp;omega)) [z8a,z1a,z0a,z1Da]
  repeat' (first|omega|apply And.intro)
  rw[hQ1]
  simp
  exact⟨i+1,by omega,by omega,⟨by omega,(z0bc hi').symm⟩,by omega⟩
 ·have e:i=32:=by omega
  subst e
  simp[hQ1,hQ0,List.take_of_length_le,hb]
theorem z1Xb (E:Env) (h15:E.G 15=z8ra) (h19:E.G 19=z1S) (h27:E.G 27=z4Ca):∀ds,z8za.pre ds→ds.length=z2j.n∧awp E z2j.body (z2q z2j.res (z8za.post ds)) (z9b z2j.wr ds):=by
 rintro _ ⟨key,text,hk,ht,rfl⟩
 simp(maxSteps:=1000000) (disch:=first|omega|(simp;done)|(simp;omega)) [z8a,z1a,z0a,z2j,h15,h19,h27,z4Pa,z6la,z9vb]
 exact⟨by omega,rfl⟩
theorem z0hb (E:Env) (h30:E.G 30=z1Ba):∀ds,z0V.pre ds→ds.length=z9g.n∧awp E z9g.body (z2q z9g.res (z0V.post ds)) (z9b z9g.wr ds):=by
 rintro _ ⟨s,hs,rfl⟩
 have hl:=z7ta (n:=s.length) ⟨by omega,by omega⟩
 simp(maxSteps:=1000000) (disch:=first|omega|(simp;done)|(simp;omega)) [z8a,z1a,z0a,z9g,h30,z1wb,z4na]
 omega
end Go.Abs
end

section
namespace Go.Abs
theorem z26a (E:Env):∀ds,z4V.pre ds→ds.length=z1g.n∧awp E z1g.body (z2q z1g.res (z4V.post ds)) (z9b z1g.wr ds):=by
 rintro _ ⟨nl,b,hb,rfl⟩
 have hn:(UInt64.ofNat b.length).toNat=b.length:=by rw[UInt64.toNat_ofNat'];omega
 have ho:UInt64.ofInt (b.length:Int)=UInt64.ofNat b.length:=by
  apply UInt64.toNat_inj.1
  rw[z71,UInt64.toNat_ofNat']
  omega
 have hz:=z1Ga b.length
 have hzo:=z8Ha b.length
 simp(maxSteps:=1000000) (disch:=first|omega|(simp;done)|(simp;omega)) [z8a,z1a,z0a,z1g]
 refine⟨by omega,by omega,?_⟩
 refine z7a fun Q0 hQ0=> ?_
 refine z4f (fun k:Nat=>⟨[(0,.sl .plain nl b.length (bys b))],[(3,.sl (.own 1) (some false) (b.length+1+k) (bys (b++128::z9m k)))],[]⟩)
  (fun k=>z3na b.length-k) (· ≤z3na b.length) 0 rfl (by simp) fun k hk=> ?_
 refine z7a fun Q1 hQ1=> ?_
 simp(maxSteps:=1000000) (disch:=first|omega|(simp;done)|(simp;omega)) [z8a,z1a,z0a]
 have e64:((b.length:Int)+1+(k:Int)).tmod 64=((b.length+1+k)% 64:Nat):=by rw[Int.tmod_eq_emod_of_nonneg (by omega)];omega
 rw[z3e]
 refine⟨by simp,fun h=> ?_,fun h=> ?_⟩<;>simp at h
 ·have hk':k<z3na b.length:=by
   rcases Nat.lt_or_ge k (z3na b.length) with h3|h3
   ·exact h3
   ·have:k=z3na b.length:=by omega
    subst this
    omega
  simp(maxSteps:=1000000) (disch:=first|omega|(simp;done)|(simp;omega)) [z8a,z1a,z0a,hQ1]
  refine⟨by omega,k+1,by omega,by omega,by omega,?_⟩
  rw[←z2ha]
 ·have e:k=z3na b.length:=by
   unfold z3na at hk⊢
   omega
  subst e
  simp(maxSteps:=1000000) (disch:=first|omega|(simp;done)|(simp;omega)) [z8a,z1a,z0a,hQ1,hQ0]
  refine z7a fun Q2 hQ2=> ?_
  refine z4f (fun i:Nat=>⟨[(0,.sl .plain nl b.length (bys b))],[(3,.sl (.own 1) (some false) (b.length+1+z3na b.length+i) (bys (b++128::z9m (z3na b.length)++be8 (8*UInt64.ofNat b.length) i))),(4,u64 (8*UInt64.ofNat b.length)),(5,i64 i)],[]⟩)
   (fun i=>8-i) (· ≤8) 0 (by simp[be8,ho]) (by decide) fun i hi=> ?_
  have hbe:=z76 (8*UInt64.ofNat b.length) i
  refine z7a fun Q3 hQ3=> ?_
  simp(maxSteps:=1000000) (disch:=first|omega|(simp;done)|(simp;omega)) [z8a,z1a,z0a]
  rw[z3e]
  refine⟨by simp,fun h=> ?_,fun h=> ?_⟩<;>simp at h
  ·have e7:((56:Int)-8*(i:Int)).toNat=56-8*i:=by omega
   simp(maxSteps:=1000000) (disch:=first|omega|(simp;done)|(simp;omega)) [z8a,z1a,z0a,e7]
   refine⟨by omega,by omega,?_⟩
   rw[hQ3]
   simp
   refine⟨i+1,by omega,by omega,⟨by omega,?_⟩,by omega⟩
   rw[be8]
  ·have e:i=8:=by omega
   subst e
   simp[hQ3,hQ2,z3J,z2bb,hn,z76]
   omega
theorem z8vb (x y:UInt32) (n:Nat):z12 (x|||y) n=z12 x n|||z12 y n:=by
 apply UInt32.toBitVec_inj.1
 exact BitVec.shiftLeft_or_distrib x.toBitVec y.toBitVec n
theorem z1Ja (x:UInt32) (m n:Nat):z12 (z12 x m) n=z12 x (m+n):=by
 apply UInt32.toBitVec_inj.1
 exact(BitVec.shiftLeft_add x.toBitVec m n).symm
theorem z7Nc (b:List UInt8) (t:Nat):ldw b t 4=z12 (at8 b (4*t)).toUInt32 24|||z12 (at8 b (4*t+1)).toUInt32 16|||z12 (at8 b (4*t+2)).toUInt32 8|||(at8 b (4*t+3)).toUInt32:=by
 have h0:z12 0 8=0:=rfl
 have h1:∀x:UInt32,0|||x=x:=fun x=>by simp
 simp only[ldw,z8vb,z1Ja,h0,h1,Nat.add_zero]
theorem z2mb (E:Env) (h26:E.G 26=z0qa):∀ds,z3M.pre ds→ds.length=z1h.n∧awp E z1h.body (z2q z1h.res (z3M.post ds)) (z9b z1h.wr ds):=by
 rintro _ ⟨nl,b,hb,rfl⟩
 simp(maxSteps:=1000000) (disch:=first|omega|(simp;done)|(simp;omega)) [z8a,z1a,z0a,z1h]
 refine z7a fun Q0 hQ0=> ?_
 refine z4f (fun t:Nat=>⟨[(0,.sl .plain nl 64 (bys b))],[(2,.bp 2 0),(3,.bp 3 0),(4,i64 t)],[(2,some (z3o (z3k 64))),(3,some (z3o (z5v b t++z3k (64-t))))]⟩)
  (fun t=>16-t) (· ≤16) 0 rfl (by decide) fun t ht=> ?_
 have hl:=z4z b t
 refine z7a fun Q1 hQ1=> ?_
 simp(maxSteps:=1000000) (disch:=first|omega|(simp;done)|(simp;omega)) [z8a,z1a,z0a]
 rw[z3e]
 refine⟨by simp,fun h=> ?_,fun h=> ?_⟩<;>simp at h
 ·have h4:(4*(t:Int)).toNat=4*t:=by omega
  have h41:(4*(t:Int)+1).toNat=4*t+1:=by omega
  have h42:(4*(t:Int)+2).toNat=4*t+2:=by omega
  have h43:(4*(t:Int)+3).toNat=4*t+3:=by omega
  simp(maxSteps:=1000000) (disch:=first|omega|(simp;done)|(simp;omega)) [z8a,z1a,z0a,z1Da,h4,h41,h42,h43,z3y,z5fa,z6Z (show t<64 by omega)]
  repeat' (first|omega|apply And.intro)
  simp[hQ1]
  refine⟨t+1,by omega,by omega,by omega,?_⟩
  rw[z5v,z8cb,if_pos (by omega),show 64-(t+1)=63-t by omega,z7Nc]
  simp
 ·have e:t=16:=by omega
  subst e
  simp(maxSteps:=1000000) (disch:=first|omega|(simp;done)|(simp;omega)) [z8a,z1a,z0a,hQ1,hQ0]
  refine z7a fun Q2 hQ2=> ?_
  refine z4f (fun t:Nat=>⟨[(0,.sl .plain nl 64 (bys b))],[(2,.bp 2 0),(3,.bp 3 0),(5,i64 t)],[(2,some (z3o (z3k 64))),(3,some (z3o (z5v b t++z3k (64-t))))]⟩)
   (fun t=>64-t) (fun t=>16≤t∧t≤64) 16 rfl (by decide) fun t ht=> ?_
  have hl:=z4z b t
  refine z7a fun Q3 hQ3=> ?_
  simp(maxSteps:=1000000) (disch:=first|omega|(simp;done)|(simp;omega)) [z8a,z1a,z0a]
  rw[z3e]
  refine⟨by simp,fun h2=> ?_,fun h2=> ?_⟩<;>simp at h2
  ·simp(maxSteps:=1000000) (disch:=first|omega|(simp;done)|(simp;omega)) [z8a,z1a,z0a,h26,z3Sa,z4L,z3y,z9Na]
   repeat' (first|omega|apply And.intro)
   simp[hQ3]
   refine⟨t+1,by omega,by omega,by omega,?_⟩
   rw[z5v,z8cb,if_neg (by omega),show 64-(t+1)=63-t by omega,z6Z (by omega),show((t:Int)-16).toNat=t-16 by omega,show((t:Int)-15).toNat=t-15 by omega,show((t:Int)-7).toNat=t-7 by omega,show((t:Int)-2).toNat=t-2 by omega]
   simp[sg0,sg1]
  ·have e:t=64:=by omega
   subst e
   simp(disch:=simp[hl]) [hQ3,hQ2,z0j,hl,List.take_of_length_le,z3k]
theorem z8ab (E:Env) (h15:E.G 15=z8ra) (h19:E.G 19=z1S):∀ds,z4Ca.pre ds→ds.length=z9f.n∧awp E z9f.body (z2q z9f.res (z4Ca.post ds)) (z9b z9f.wr ds):=by
 rintro _ ⟨k,w,hk,rfl⟩
 simp(maxSteps:=1000000) (disch:=first|omega|(simp;done)|(simp;omega)) [z8a,z1a,z0a,z9f]
 refine z7a fun Q0 hQ0=> ?_
 have key2:Q0 .normal ⟨[(0,st k),(1,u8 w)],[(5,st (z1T k))],[]⟩:=by
  have hp:=z5Z (z1T k) w
  simp(maxSteps:=1000000) (disch:=first|omega|(simp;done)|(simp;omega)) [z8a,z1a,z0a,hQ0]
  refine z7a fun Q1 hQ1=> ?_
  refine z4f (fun i:Nat=>⟨[(0,st k),(1,u8 w)],[(5,st (z1T k)),(6,.sl (.own 1) none i (bys ((z54 (z1T k) w).take i))),(7,i64 i)],[]⟩)
   (fun i=>64-i) (· ≤64) 0 rfl (by decide) fun i hi=> ?_
  refine z7a fun Q2 hQ2=> ?_
  simp(maxSteps:=1000000) (disch:=first|omega|(simp;done)|(simp;omega)) [z8a,z1a,z0a]
  rw[z3e]
  refine⟨by simp,fun h=> ?_,fun h=> ?_⟩<;>simp at h
  ·have hi':i<(z54 (z1T k) w).length:=by omega
   simp(maxSteps:=1000000) (disch:=first|omega|(simp;done)|(simp;omega)) [z8a,z1a,z0a]
   refine z7a fun Q3 hQ3=> ?_
   have key3:∀c:UInt8,c^^^w=at8 (z54 (z1T k) w) i→Q3 .normal ⟨[(0,st k),(1,u8 w)],[(5,st (z1T k)),(6,.sl (.own 1) none i (bys ((z54 (z1T k) w).take i))),(7,i64 i),(8,u8 c)],[]⟩:=by
    intro c hc
    simp(maxSteps:=1000000) (disch:=first|omega|(simp;done)|(simp;omega)) [z8a,z1a,z0a,hQ3,hQ2,hc]
    exact⟨by omega,i+1,by omega,by omega,⟨by omega,(z0bc hi').symm⟩,by omega⟩
   have hat:at8 (z54 (z1T k) w) i=at8 (z54 (z1T k) 0) i^^^w:=z97a (by omega)
   rw[z3e]
   refine⟨by simp,fun h3=> ?_,fun h3=> ?_⟩<;>simp at h3
   ·simp(maxSteps:=1000000) (disch:=first|omega|(simp;done)|(simp;omega)) [z8a,z1a,z0a]
    refine⟨h3,key3 _ ?_⟩
    rw[hat,z5gb,z9Pb (by simp;omega),z6Ra (by omega)]
    simp[at8,List.getD,List.getElem?_eq_getElem h3]
   ·simp
    refine key3 _ ?_
    rw[hat,z5gb,z3ea (by simp;omega)]
    simp[at8,z9m,List.getElem?_replicate]
    split<;>simp
  ·have e:i=64:=by omega
   subst e
   simp[hQ2,hQ1,hp,List.take_of_length_le]
 rw[z3e]
 refine⟨by simp,fun h=> ?_,fun h=> ?_⟩<;>simp at h
 ·simp(maxSteps:=1000000) (disch:=first|omega|(simp;done)|(simp;omega)) [z8a,z1a,z0a,h15,h19,z4Pa,z6la]
  have e:=key2
  rw[z1T,if_pos (by omega)] at e
  exact e
 ·simp
  have e:=key2
  rw[z1T,if_neg (by omega)] at e
  exact e
end Go.Abs
end

section
namespace Go.Abs
theorem z6mb (x:UInt32):x^^^4294967295= ~~~x:=by
 apply UInt32.toBitVec_inj.1
 exact BitVec.xor_allOnes
theorem z4qb {l:List UInt32} (h:1<l.length):hdA (z3o l).tail=u32 (z3s l 1):=by
 rw[←List.drop_one,z2ia,z4L h]
def z1Jb (s v:List UInt32):Nat→List UInt32
 |0=>s
 |t+1=>(z1Jb s v t).set t (z3s (z1Jb s v t) t+z3s v t)
theorem z5Ra (s v:List UInt32):∀t,(z1Jb s v t).length=s.length
 |0=>rfl
 |t+1=>by simp[z1Jb,z5Ra s v t]
theorem z1fc (s v:H8):z1Jb s.l v.l 8=(s.add v).l:=rfl
set_option maxHeartbeats 4000000 in
theorem z1Nb (E:Env) (hT1:E.T 1=z3o kc) (h24:E.G 24=z4V) (h25:E.G 25=z3M) (h26:E.G 26=z0qa):∀ds,z8ra.pre ds→ds.length=z4j.n∧awp E z4j.body (z2q z4j.res (z8ra.post ds)) (z9b z4j.wr ds):=by
 rintro _ ⟨nl,b,hb,rfl⟩
 obtain⟨hp1,hp2,hp3⟩:=z8na (b:=b) (by omega)
 generalize hm:z3J b=m at*
 have hkc:kc.length=64:=rfl
 simp(maxSteps:=1000000) (disch:=first|omega|(simp;done)|(simp;omega)) [z8a,z1a,z0a,z4j,h24,z6Ya,hm,z0j]
 refine z7a fun Q0 hQ0=> ?_
 refine z4f (fun k:Nat=>⟨[(0,.sl .plain nl b.length (bys b))],[(2,.bp 2 0),(3,.bp 3 0),(4,.sl (.own 1) (some false) m.length (bys m)),(5,i64 (64*k:Nat))],
   [(2,some (bys (z9m 32))),(3,some (z3o (blk m iv k).l))]⟩)
  (fun k=>m.length-64*k) (fun k=>64*k≤m.length) 0 rfl (by simp) fun k hk=> ?_
 generalize hs:blk m iv k=s at*
 refine z7a fun Q1 hQ1=> ?_
 simp(maxSteps:=1000000) (disch:=first|omega|(simp;done)|(simp;omega)) [z8a,z1a,z0a,z0I]
 rw[z3e]
 refine⟨by simp,fun h=> ?_,fun h=> ?_⟩<;>simp at h
 ·have hb64:((m.drop (64*k)).take 64).length=64:=by simp;omega
  generalize hB:(m.drop (64*k)).take 64=B at*
  have hl:=z4z B 64
  have e1:(64*(k:Int)+64).toNat-64*k=64:=by omega
  have e2:(64*(k:Int)).toNat=64*k:=by omega
  simp(maxSteps:=1000000) (disch:=first|omega|(simp;done)|(simp;omega)) [z8a,z1a,z0a,z4H,h25,z9db,e1,e2,hB,hl,z0j]
  refine⟨by omega,?_⟩
  refine z7a fun Q2 hQ2=> ?_
  have hs8:s.l.take 8=s.l:=rfl
  refine z4f (fun t:Nat=>⟨[(0,.sl .plain nl b.length (bys b))],[(2,.bp 2 0),(3,.bp 3 0),(4,.sl (.own 1) (some false) m.length (bys m)),(5,i64 (64*k:Nat)),(6,.bp 6 0),(7,.bp 7 0),(8,i64 t)],
    [(2,some (bys (z9m 32))),(3,some (z3o s.l)),(6,some (z3o (z5v B 64))),(7,some (z3o (z6oa (z5v B 64) s t).l))]⟩)
   (fun t=>64-t) (· ≤64) 0 (by simp[hs8,z6oa]) (by decide) fun t ht=> ?_
  refine z7a fun Q3 hQ3=> ?_
  simp(maxSteps:=1000000) (disch:=first|omega|(simp;done)|(simp;omega)) [z8a,z1a,z0a,z5I]
  rw[z3e]
  refine⟨by simp,fun h2=> ?_,fun h2=> ?_⟩<;>simp at h2
  ·generalize hr:z6oa (z5v B 64) s t=r at*
   have hrl:r.l.length=8:=rfl
   simp(maxSteps:=2000000) (disch:=first|omega|(simp;done)|(simp;omega)) [z9F,z8a,hT1,z4L,z5rb,z4qb,z9ha,h26,z3Sa,hl,hkc,hrl,z0j]
   have hn:[u32 (z3s r.l 7+(z01 (z3s r.l 4) 6^^^z01 (z3s r.l 4) 11^^^z01 (z3s r.l 4) 25)+(z3s r.l 4&&&z3s r.l 5^^^(z3s r.l 4^^^4294967295)&&&z3s r.l 6)+z3s kc t+z3s (z5v B 64) t+((z01 (z3s r.l 0) 2^^^z01 (z3s r.l 0) 13^^^z01 (z3s r.l 0) 22)+(z3s r.l 0&&&z3s r.l 1^^^z3s r.l 0&&&z3s r.l 2^^^z3s r.l 1&&&z3s r.l 2))),
     u32 (z3s r.l 0),u32 (z3s r.l 1),u32 (z3s r.l 2),u32 (z3s r.l 3+(z3s r.l 7+(z01 (z3s r.l 4) 6^^^z01 (z3s r.l 4) 11^^^z01 (z3s r.l 4) 25)+(z3s r.l 4&&&z3s r.l 5^^^(z3s r.l 4^^^4294967295)&&&z3s r.l 6)+z3s kc t+z3s (z5v B 64) t)),u32 (z3s r.l 4),u32 (z3s r.l 5),u32 (z3s r.l 6)]
     =z3o (z6oa (z5v B 64) s (t+1)).l:=by
    rw[z6mb,z6oa,hr]
    rfl
   rw[hn,hQ3]
   repeat' (first|omega|apply And.intro)
   simp
   exact⟨t+1,by omega,by omega,by omega,rfl⟩
  ·have e:t=64:=by omega
   subst e
   generalize hr:z6oa (z5v B 64) s 64=r at*
   simp(maxSteps:=1000000) (disch:=first|omega|(simp;done)|(simp;omega)) [z8a,z1a,z0a,hQ3,hQ2,z5G]
   refine z7a fun Q4 hQ4=> ?_
   clear hQ3 hQ2
   refine z4f (fun t:Nat=>⟨[(0,.sl .plain nl b.length (bys b))],[(2,.bp 2 0),(3,.bp 3 0),(4,.sl (.own 1) (some false) m.length (bys m)),(5,i64 (64*k:Nat)),(7,.bp 7 0),(11,i64 t)],
     [(2,some (bys (z9m 32))),(3,some (z3o (z1Jb s.l r.l t))),(6,some (z3o (z5v B 64))),(7,some (z3o r.l))]⟩)
    (fun t=>8-t) (· ≤8) 0 (by simp[z1Jb]) (by decide) fun t ht=> ?_
   have hal:=z5Ra s.l r.l t
   have hsl:s.l.length=8:=rfl
   have hrl:r.l.length=8:=rfl
   refine z7a fun Q5 hQ5=> ?_
   simp(maxSteps:=1000000) (disch:=first|omega|(simp;done)|(simp;omega)) [z8a,z1a,z0a,z8I]
   rw[z3e]
   refine⟨by simp,fun h3=> ?_,fun h3=> ?_⟩<;>simp at h3
   ·simp(maxSteps:=1000000) (disch:=first|omega|(simp;done)|(simp;omega)) [z8a,z1a,z0a,z9H,z4L,z3y]
    repeat' (first|omega|apply And.intro)
    simp[hQ5]
    exact⟨t+1,by omega,by omega,by omega,rfl⟩
   ·have e:t=8:=by omega
    subst e
    simp(maxSteps:=1000000) (disch:=first|omega|(simp;done)|(simp;omega)) [z8a,z1a,z0a,hQ5,hQ4,hQ1]
    refine⟨k+1,by omega,by omega,by omega,?_⟩
    rw[z1fc,blk,hs,hB,z30a,hr]
 ·have e:64*k=m.length:=by omega
  simp(maxSteps:=1000000) (disch:=first|omega|(simp;done)|(simp;omega)) [z8a,z1a,z0a,hQ1,hQ0,z0J]
  refine z7a fun Q2 hQ2=> ?_
  clear hQ1 hQ0
  refine z4f (fun i:Nat=>⟨[(0,.sl .plain nl b.length (bys b))],[(2,.bp 2 0),(3,.bp 3 0),(12,.bp 12 0),(13,i64 i)],
    [(2,some (bys (z9m 32))),(3,some (z3o s.l)),(6,none),(7,none),(12,some (bys (z0fb s i++z9m (32-i))))]⟩)
   (fun i=>32-i) (· ≤32) 0 rfl (by decide) fun i hi=> ?_
  have ho:=z55 s i
  refine z7a fun Q3 hQ3=> ?_
  simp(maxSteps:=1000000) (disch:=first|omega|(simp;done)|(simp;omega)) [z8a,z1a,z0a,z7G]
  rw[z3e]
  refine⟨by simp,fun h2=> ?_,fun h2=> ?_⟩<;>simp at h2
  ·have hi4:i/4<s.l.length:=by show i/4<8;omega
   have e4:(i:Int).tdiv 4=(i/4:Nat):=by rw[Int.tdiv_eq_ediv_of_nonneg (by omega)];rfl
   have e5:(i:Int).tmod 4=(i% 4:Nat):=by rw[Int.tmod_eq_emod_of_nonneg (by omega)];rfl
   have e4':((i:Int)/4).toNat=i/4:=by omega
   have e6:((24:Int)-8*((i:Int)% 4)).toNat=24-8*(i% 4):=by omega
   simp(maxSteps:=1000000) (disch:=first|omega|(simp;done)|(simp;omega)) [z8a,z1a,z0a,z7F,e4,e5,e6,e4',z4L,z07,z5fa,z0Sa (show i<32 by omega)]
   repeat' (first|omega|apply And.intro)
   simp[hQ3]
   refine⟨i+1,by omega,by omega,by omega,?_⟩
   rw[z0fb,show 32-(i+1)=31-i by omega]
   simp
  ·have e:i=32:=by omega
   subst e
   have hk2:m.length/64=k:=by omega
   have hf:sha b=z0fb s 32:=by
    rw[z8Kb hb,hm,hk2,hs]
   simp[hQ3,hQ2,z4J,z72,ho,hf,z9m,List.take_of_length_le]
end Go.Abs
end

section
namespace Go.Abs
theorem z6ib {l:List UInt8} {j:Nat} (h:j<l.length):l.reverse.take (j+1)=l.reverse.take j++[at8 l (l.length-1-j)]:=by
 rw[List.take_succ_eq_append_getElem (by simp;omega),at8,List.getD,List.getElem?_eq_getElem (by omega)]
 simp[List.getElem_reverse]
set_option maxHeartbeats 4000000 in
theorem z3Mb (E:Env):∀ds,z1Ba.pre ds→ds.length=z6j.n∧awp E z6j.body (z2q z6j.res (z1Ba.post ds)) (z9b z6j.wr ds):=by
 rintro _ ⟨n,⟨hn0,hn1⟩,rfl⟩
 simp(maxSteps:=1000000) (disch:=first|omega|(simp;done)|(simp;omega)) [z8a,z1a,z0a,z6j]
 refine z7a fun Q0 hQ0=> ?_
 have key:Q0 .normal ⟨[(0,i64 n)],[(3,i64 (mag n:Nat))],[]⟩:=by
  have hmag:(mag n:Int)=if n<0 then-1-n else n:=by unfold mag;split<;>omega
  have hm63:mag n<9223372036854775808:=by split at hmag<;>omega
  simp(maxSteps:=1000000) (disch:=first|omega|(simp;done)|(simp;omega)) [z8a,z1a,z0a,hQ0,z1H]
  refine z7a fun Q1 hQ1=> ?_
  refine z4f (fun p:Nat×List UInt8=>⟨[(0,i64 n)],[(3,i64 p.1),(4,.sl (.own 1) none p.2.length (bys p.2))],[]⟩) (fun p=>p.1) (fun p=>p.2++z3da p.1=z3da (mag n)∧p.1<9223372036854775808∧p.2.length≤8) (mag n,[]) rfl (by simp;omega) fun p hp=> ?_
  obtain⟨m,l⟩:=p
  obtain⟨h1,h2,h3⟩:=hp
  simp only at h1 h2 h3
  refine z7a fun Q2 hQ2=> ?_
  simp(maxSteps:=1000000) (disch:=first|omega|(simp;done)|(simp;omega)) [z8a,z1a,z0a,z3G]
  rw[z3e]
  refine⟨by simp,fun h=> ?_,fun h=> ?_⟩<;>simp at h
  ·have hl7:l.length≤7:=by
    have:=(z7X 8 (mag n)).2 (by omega)
    rw[←h1,z9Y (by omega)] at this
    simp at this
    omega
   have e1:(m:Int).tmod 256=((m% 256:Nat):Int):=by rw[Int.tmod_eq_emod_of_nonneg (by omega)];rfl
   have e2:(m:Int).tdiv 256=((m/256:Nat):Int):=by rw[Int.tdiv_eq_ediv_of_nonneg (by omega)];rfl
   have e3:UInt8.ofInt ((m:Int)% 256)=UInt8.ofNat m:=by
    apply UInt8.toNat_inj.1
    rw[z4ga,UInt8.toNat_ofNat']
    omega
   simp(maxSteps:=1000000) (disch:=first|omega|(simp;done)|(simp;omega)) [z8a,z1a,z0a,z5F,e1,e2,e3]
   refine⟨by omega,?_⟩
   simp[hQ2]
   refine⟨m/256,by omega,l++[UInt8.ofNat m],⟨?_,by omega,by simp;omega⟩,by omega,by simp,by simp⟩
   rw[List.append_assoc,List.singleton_append,←z9Y (by omega),h1]
  ·have e:m=0:=by omega
   subst e
   rw[z8V,List.append_nil] at h1
   subst h1
   generalize hD:z3da (mag n)=D at*
   simp(maxSteps:=1000000) (disch:=first|omega|(simp;done)|(simp;omega)) [z8a,z1a,z0a,hQ2,hQ1,z8F]
   refine z7a fun Q3 hQ3=> ?_
   have key2:∀c,c=flp n (UInt8.ofNat (128+D.length))→Q3 .normal ⟨[(0,i64 n)],[(4,.sl (.own 1) none D.length (bys D)),(5,i64 D.length),(6,.sl (.own 1) none 1 (bys [c]))],[]⟩:=by
    intro c hc
    have hfin:z4Ua n=c::D.reverse.map (flp n):=by rw[z4Ua,hD,hc]
    clear hc
    simp(maxSteps:=1000000) (disch:=first|omega|(simp;done)|(simp;omega)) [z8a,z1a,z0a,hQ3,z4G]
    refine z7a fun Q4 hQ4=> ?_
    refine z4f (fun j:Nat=>⟨[(0,i64 n)],[(4,.sl (.own 1) none D.length (bys D)),(6,.sl (.own 1) none (1+j) (bys (c::(D.map (flp n)).reverse.take j))),(7,i64 ((D.length:Int)-1-j))],[]⟩)
     (fun j=>D.length-j) (· ≤D.length) 0 (by simp) (by simp) fun j hj=> ?_
    refine z7a fun Q5 hQ5=> ?_
    simp(maxSteps:=1000000) (disch:=first|omega|(simp;done)|(simp;omega)) [z8a,z1a,z0a,z0G]
    rw[z3e]
    refine⟨by simp,fun h5=> ?_,fun h5=> ?_⟩<;>simp at h5
    ·have hj':j<D.length:=by omega
     have e1:((D.length:Int)-1-(j:Int)).toNat=D.length-1-j:=by omega
     simp(maxSteps:=1000000) (disch:=first|omega|(simp;done)|(simp;omega)) [z8a,z1a,z0a,z6I,e1,z1Da]
     refine⟨by omega,by omega,?_⟩
     refine z7a fun Q6 hQ6=> ?_
     have key3:∀d,d=flp n (at8 D (D.length-1-j))→Q6 .normal ⟨[(0,i64 n)],[(4,.sl (.own 1) none D.length (bys D)),(6,.sl (.own 1) none (1+j) (bys (c::(D.map (flp n)).reverse.take j))),(7,i64 ((D.length:Int)-1-j)),(8,u8 d)],[]⟩:=by
      intro d hd
      subst hd
      simp(maxSteps:=1000000) (disch:=first|omega|(simp;done)|(simp;omega)) [z8a,z1a,z0a,hQ6,hQ5,z2J]
      refine⟨by omega,j+1,by omega,by omega,⟨by omega,?_⟩,by omega⟩
      rw[z6ib (by simpa using hj')]
      simp[at8,List.getD,List.getElem?_eq_getElem (show D.length-1-j<D.length by omega)]
     rw[z3e]
     refine⟨by simp,fun h7=> ?_,fun h7=> ?_⟩<;>simp at h7
     ·simp(maxSteps:=1000000) (disch:=first|omega|(simp;done)|(simp;omega)) [z8a,z1a,z0a]
      exact key3 _ (by rw[flp,if_pos h7])
     ·simp
      exact key3 _ (by rw[flp,if_neg (by omega)])
    ·have e:j=D.length:=by omega
     subst e
     simp[hQ5,hQ4,z3H,hfin,List.take_of_length_le]
     omega
   have hc8:(UInt8.ofNat (128+D.length)).toNat=128+D.length:=by rw[UInt8.toNat_ofNat'];omega
   rw[z3e]
   refine⟨by simp,fun h6=> ?_,fun h6=> ?_⟩<;>simp at h6
   ·simp(maxSteps:=1000000) (disch:=first|omega|(simp;done)|(simp;omega)) [z8a,z1a,z0a]
    refine key2 _ ?_
    rw[flp,if_neg (by omega)]
    apply UInt8.toNat_inj.1
    rw[hc8,UInt8.toNat_add,z4ga,z4ga]
    omega
   ·simp(maxSteps:=1000000) (disch:=first|omega|(simp;done)|(simp;omega)) [z8a,z1a,z0a]
    refine key2 _ ?_
    rw[flp,if_pos (by omega)]
    apply UInt8.toNat_inj.1
    rw[UInt8.toNat_sub,hc8,z4ga]
    have:(255:UInt8).toNat=255:=rfl
    omega
 have hmag:(mag n:Int)=if n<0 then-1-n else n:=by unfold mag;split<;>omega
 rw[z3e]
 refine⟨by simp,fun h=> ?_,fun h=> ?_⟩<;>simp at h
 ·simp(maxSteps:=1000000) (disch:=first|omega|(simp;done)|(simp;omega)) [z8a,z1a,z0a]
  rw[if_pos h] at hmag
  rw[hmag] at key
  exact key
 ·simp
  rw[if_neg (by omega)] at hmag
  rw[hmag] at key
  exact key
end Go.Abs
end
