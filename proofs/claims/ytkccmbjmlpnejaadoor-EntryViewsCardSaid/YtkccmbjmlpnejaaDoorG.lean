/- Lemmas: an abstract interpreter, and what the functions compute. -/
import Derived.Test.YtkccmbjmlpnejaaDoorD
import Derived.Test.YtkccmbjmlpnejaaDoorE
import Derived.Test.YtkccmbjmlpnejaaDoorF
set_option linter.unusedSimpArgs false
set_option linter.unusedVariables false
set_option linter.unusedSectionVars false
section
namespace Go.Abs
set_option maxRecDepth 100000
def z9j:z2t:=
 {n:=2,wr:=[],res:=[.cell 4 (some 16) 4],body:=
 .seq (
 .region [4] [.norm [4]] [
 ⟨some 4,none,.alloc 4 (bys (z4c 16))⟩]) (
 .seq (
 .region [4] [.norm [4]] [
 ⟨some 5,none,.mv false (.s 0)⟩,
 ⟨some 6,none,.mv false (.s 1)⟩,
 ⟨some 7,none,.call 21 [(.s 5),(.s 6)] []⟩,
 ⟨some 8,none,.call 28 [(.s 7)] []⟩,
 ⟨none,none,.store (some 16) 4 false (.s 4) (.s 8)⟩]) (
 .ret))}

def z1h:z2t:=
 {n:=2,wr:=[],res:=[.t 4],body:=
 .seq (
 .region [] [] [
 ⟨some 4,none,.mv true (.c (.sl (.own 1) none 0 []))⟩]) (
 .seq (
 .region [5] [] [
 ⟨some 7,none,.mv false (.s 0)⟩,
 ⟨some 8,none,.toInt .u8 (.s 7)⟩,
 ⟨some 9,none,.buildSl 1 1 [u8 0] [(0,1,(.s 8))]⟩,
 ⟨some 5,none,.mv true (.s 9)⟩]) (
 .seq (
 .seq (
 .region [5,6] [] [
 ⟨some 6,none,.mv false (.c (i64 0))⟩]) (
 .block 0 (
 .loop (
 .seq (
 .seq (
 .region [5,6,13] [] [
 ⟨some 10,none,.mv false (.s 6)⟩,
 ⟨some 11,none,.mv false (.s 1)⟩,
 ⟨some 12,none,.len false (.s 11)⟩,
 ⟨some 13,none,.bin .lss (.s 10) (.s 12)⟩]) (
 .cond (.s 13) (
 .ghost (.keep [5,6]) .skip) (
 .ghost (.keep [5]) (.exit 0)))) (
 .seq (
 .block 1 (
 .region [5,6] [] [
 ⟨some 16,none,.mv true (.s 5)⟩,
 ⟨some 17,none,.mv false (.s 1)⟩,
 ⟨some 18,none,.mv false (.s 6)⟩,
 ⟨some 19,none,.idxSl 1 (.s 17) (.s 18)⟩,
 ⟨some 20,none,.load none none false (.s 19)⟩,
 ⟨some 21,none,.call 29 [(.s 20)] []⟩,
 ⟨some 22,none,.append 1 1 false (some false) none 16 (.s 21)⟩,
 ⟨some 5,none,.mv true (.s 22)⟩])) (
 .region [5,6] [] [
 ⟨some 14,none,.mv false (.s 6)⟩,
 ⟨some 15,none,.bin .add (.s 14) (.c (i64 1))⟩,
 ⟨some 6,none,.mv false (.s 15)⟩])))))) (
 .seq (
 .region [4] [] [
 ⟨some 23,none,.mv true (.s 5)⟩,
 ⟨some 4,none,.mv true (.s 23)⟩]) (
 .ret))))}

def z1g:z2t:=
 {n:=1,wr:=[],res:=[.t 2],body:=
 .seq (
 .region [] [] [
 ⟨some 2,none,.mv true (.c (.sl (.own 1) none 0 []))⟩]) (
 .seq (
 .region [3] [] [
 ⟨some 6,none,.buildSl 1 0 [] []⟩,
 ⟨some 7,none,.mv false (.s 0)⟩,
 ⟨some 8,none,.append 1 1 false (some false) none 6 (.s 7)⟩,
 ⟨some 3,none,.mv true (.s 8)⟩]) (
 .seq (
 .region [3] [] [
 ⟨some 9,none,.mv true (.s 3)⟩,
 ⟨some 10,none,.buildSl 1 1 [u8 0] [(0,1,(.c (u8 128)))]⟩,
 ⟨some 11,none,.append 1 1 false (some false) none 9 (.s 10)⟩,
 ⟨some 3,none,.mv true (.s 11)⟩]) (
 .seq (
 .block 0 (
 .loop (
 .seq (
 .seq (
 .region [3,15] [] [
 ⟨some 12,none,.mv false (.s 3)⟩,
 ⟨some 13,none,.len false (.s 12)⟩,
 ⟨some 14,none,.bin .rem (.s 13) (.c (i64 64))⟩,
 ⟨some 15,none,.bin .neq (.s 14) (.c (i64 56))⟩]) (
 .cond (.s 15) (
 .ghost (.keep [3]) .skip) (
 .ghost (.keep [3]) (.exit 0)))) (
 .block 1 (
 .region [3] [] [
 ⟨some 16,none,.mv true (.s 3)⟩,
 ⟨some 17,none,.buildSl 1 1 [u8 0] [(0,1,(.c (u8 0)))]⟩,
 ⟨some 18,none,.append 1 1 false (some false) none 16 (.s 17)⟩,
 ⟨some 3,none,.mv true (.s 18)⟩]))))) (
 .seq (
 .region [3,4] [] [
 ⟨some 19,none,.mv false (.s 0)⟩,
 ⟨some 20,none,.len false (.s 19)⟩,
 ⟨some 21,none,.toInt .u64 (.s 20)⟩,
 ⟨some 22,none,.bin .mul (.c (u64 8)) (.s 21)⟩,
 ⟨some 4,none,.mv false (.s 22)⟩]) (
 .seq (
 .seq (
 .region [3,4,5] [] [
 ⟨some 5,none,.mv false (.c (i64 0))⟩]) (
 .block 2 (
 .loop (
 .seq (
 .seq (
 .region [3,4,5,24] [] [
 ⟨some 23,none,.mv false (.s 5)⟩,
 ⟨some 24,none,.bin .lss (.s 23) (.c (i64 8))⟩]) (
 .cond (.s 24) (
 .ghost (.keep [3,4,5]) .skip) (
 .ghost (.keep [3]) (.exit 2)))) (
 .seq (
 .block 3 (
 .region [3,4,5] [] [
 ⟨some 27,none,.mv true (.s 3)⟩,
 ⟨some 28,none,.mv false (.s 4)⟩,
 ⟨some 29,none,.mv false (.s 5)⟩,
 ⟨some 30,none,.bin .mul (.c (i64 8)) (.s 29)⟩,
 ⟨some 31,none,.bin .sub (.c (i64 56)) (.s 30)⟩,
 ⟨some 32,none,.bin .shr (.s 28) (.s 31)⟩,
 ⟨some 33,none,.toInt .u8 (.s 32)⟩,
 ⟨some 34,none,.buildSl 1 1 [u8 0] [(0,1,(.s 33))]⟩,
 ⟨some 35,none,.append 1 1 false (some false) none 27 (.s 34)⟩,
 ⟨some 3,none,.mv true (.s 35)⟩])) (
 .region [3,4,5] [] [
 ⟨some 25,none,.mv false (.s 5)⟩,
 ⟨some 26,none,.bin .add (.s 25) (.c (i64 1))⟩,
 ⟨some 5,none,.mv false (.s 26)⟩])))))) (
 .seq (
 .region [2] [] [
 ⟨some 36,none,.mv true (.s 3)⟩,
 ⟨some 2,none,.mv true (.s 36)⟩]) (
 .ret)))))))}

def z8g:z2t:=
 {n:=1,wr:=[],res:=[.cell 2 (some 64) 2],body:=
 .seq (
 .region [2] [.norm [2]] [
 ⟨some 2,none,.alloc 2 (z2p (z2j 64))⟩]) (
 .seq (
 .region [2,3] [.norm [2,3]] [
 ⟨some 3,none,.alloc 3 (z2p (z2j 64))⟩]) (
 .seq (
 .seq (
 .region [2,3,4] [] [
 ⟨some 4,none,.mv false (.c (i64 0))⟩]) (
 .block 0 (
 .loop (
 .seq (
 .seq (
 .region [2,3,4,9] [] [
 ⟨some 8,none,.mv false (.s 4)⟩,
 ⟨some 9,none,.bin .lss (.s 8) (.c (i64 16))⟩]) (
 .cond (.s 9) (
 .ghost (.keep [2,3,4]) .skip) (
 .ghost (.keep [2,3]) (.exit 0)))) (
 .seq (
 .block 1 (
 .region [2,3,4] [.norm [2,3]] [
 ⟨some 12,none,.mv false (.s 4)⟩,
 ⟨some 13,none,.mv false (.s 0)⟩,
 ⟨some 14,none,.mv false (.s 4)⟩,
 ⟨some 15,none,.bin .mul (.c (i64 4)) (.s 14)⟩,
 ⟨some 16,none,.idxSl 1 (.s 13) (.s 15)⟩,
 ⟨some 17,none,.load none none false (.s 16)⟩,
 ⟨some 18,none,.toInt .u32 (.s 17)⟩,
 ⟨some 19,none,.bin .shl (.s 18) (.c (u64 24))⟩,
 ⟨some 20,none,.mv false (.s 0)⟩,
 ⟨some 21,none,.mv false (.s 4)⟩,
 ⟨some 22,none,.bin .mul (.c (i64 4)) (.s 21)⟩,
 ⟨some 23,none,.bin .add (.s 22) (.c (i64 1))⟩,
 ⟨some 24,none,.idxSl 1 (.s 20) (.s 23)⟩,
 ⟨some 25,none,.load none none false (.s 24)⟩,
 ⟨some 26,none,.toInt .u32 (.s 25)⟩,
 ⟨some 27,none,.bin .shl (.s 26) (.c (u64 16))⟩,
 ⟨some 28,none,.bin .or (.s 19) (.s 27)⟩,
 ⟨some 29,none,.mv false (.s 0)⟩,
 ⟨some 30,none,.mv false (.s 4)⟩,
 ⟨some 31,none,.bin .mul (.c (i64 4)) (.s 30)⟩,
 ⟨some 32,none,.bin .add (.s 31) (.c (i64 2))⟩,
 ⟨some 33,none,.idxSl 1 (.s 29) (.s 32)⟩,
 ⟨some 34,none,.load none none false (.s 33)⟩,
 ⟨some 35,none,.toInt .u32 (.s 34)⟩,
 ⟨some 36,none,.bin .shl (.s 35) (.c (u64 8))⟩,
 ⟨some 37,none,.bin .or (.s 28) (.s 36)⟩,
 ⟨some 38,none,.mv false (.s 0)⟩,
 ⟨some 39,none,.mv false (.s 4)⟩,
 ⟨some 40,none,.bin .mul (.c (i64 4)) (.s 39)⟩,
 ⟨some 41,none,.bin .add (.s 40) (.c (i64 3))⟩,
 ⟨some 42,none,.idxSl 1 (.s 38) (.s 41)⟩,
 ⟨some 43,none,.load none none false (.s 42)⟩,
 ⟨some 44,none,.toInt .u32 (.s 43)⟩,
 ⟨some 45,none,.bin .or (.s 37) (.s 44)⟩,
 ⟨some 46,none,.idxArr 64 1 (.s 3) (.s 12)⟩,
 ⟨none,none,.store none 3 false (.s 46) (.s 45)⟩])) (
 .region [2,3,4] [] [
 ⟨some 10,none,.mv false (.s 4)⟩,
 ⟨some 11,none,.bin .add (.s 10) (.c (i64 1))⟩,
 ⟨some 4,none,.mv false (.s 11)⟩])))))) (
 .seq (
 .seq (
 .region [2,3,5] [] [
 ⟨some 5,none,.mv false (.c (i64 16))⟩]) (
 .block 2 (
 .loop (
 .seq (
 .seq (
 .region [2,3,5,48] [] [
 ⟨some 47,none,.mv false (.s 5)⟩,
 ⟨some 48,none,.bin .lss (.s 47) (.c (i64 64))⟩]) (
 .cond (.s 48) (
 .ghost (.keep [2,3,5]) .skip) (
 .ghost (.keep [2,3]) (.exit 2)))) (
 .seq (
 .block 3 (
 .seq (
 .region [2,3,5,6] [.norm [2,3]] [
 ⟨some 51,none,.mv false (.s 5)⟩,
 ⟨some 52,none,.bin .sub (.s 51) (.c (i64 15))⟩,
 ⟨some 53,none,.idxArr 64 1 (.s 3) (.s 52)⟩,
 ⟨some 54,none,.load none (some 3) false (.s 53)⟩,
 ⟨some 55,none,.call 26 [(.s 54),(.c (i64 7))] []⟩,
 ⟨some 56,none,.mv false (.s 5)⟩,
 ⟨some 57,none,.bin .sub (.s 56) (.c (i64 15))⟩,
 ⟨some 58,none,.idxArr 64 1 (.s 3) (.s 57)⟩,
 ⟨some 59,none,.load none (some 3) false (.s 58)⟩,
 ⟨some 60,none,.call 26 [(.s 59),(.c (i64 18))] []⟩,
 ⟨some 61,none,.bin .xor (.s 55) (.s 60)⟩,
 ⟨some 62,none,.mv false (.s 5)⟩,
 ⟨some 63,none,.bin .sub (.s 62) (.c (i64 15))⟩,
 ⟨some 64,none,.idxArr 64 1 (.s 3) (.s 63)⟩,
 ⟨some 65,none,.load none (some 3) false (.s 64)⟩,
 ⟨some 66,none,.bin .shr (.s 65) (.c (u64 3))⟩,
 ⟨some 67,none,.bin .xor (.s 61) (.s 66)⟩,
 ⟨some 6,none,.mv false (.s 67)⟩]) (
 .seq (
 .region [2,3,5,6,7] [.norm [2,3]] [
 ⟨some 68,none,.mv false (.s 5)⟩,
 ⟨some 69,none,.bin .sub (.s 68) (.c (i64 2))⟩,
 ⟨some 70,none,.idxArr 64 1 (.s 3) (.s 69)⟩,
 ⟨some 71,none,.load none (some 3) false (.s 70)⟩,
 ⟨some 72,none,.call 26 [(.s 71),(.c (i64 17))] []⟩,
 ⟨some 73,none,.mv false (.s 5)⟩,
 ⟨some 74,none,.bin .sub (.s 73) (.c (i64 2))⟩,
 ⟨some 75,none,.idxArr 64 1 (.s 3) (.s 74)⟩,
 ⟨some 76,none,.load none (some 3) false (.s 75)⟩,
 ⟨some 77,none,.call 26 [(.s 76),(.c (i64 19))] []⟩,
 ⟨some 78,none,.bin .xor (.s 72) (.s 77)⟩,
 ⟨some 79,none,.mv false (.s 5)⟩,
 ⟨some 80,none,.bin .sub (.s 79) (.c (i64 2))⟩,
 ⟨some 81,none,.idxArr 64 1 (.s 3) (.s 80)⟩,
 ⟨some 82,none,.load none (some 3) false (.s 81)⟩,
 ⟨some 83,none,.bin .shr (.s 82) (.c (u64 10))⟩,
 ⟨some 84,none,.bin .xor (.s 78) (.s 83)⟩,
 ⟨some 7,none,.mv false (.s 84)⟩]) (
 .region [2,3,5] [.norm [2,3]] [
 ⟨some 85,none,.mv false (.s 5)⟩,
 ⟨some 86,none,.mv false (.s 5)⟩,
 ⟨some 87,none,.bin .sub (.s 86) (.c (i64 16))⟩,
 ⟨some 88,none,.idxArr 64 1 (.s 3) (.s 87)⟩,
 ⟨some 89,none,.load none (some 3) false (.s 88)⟩,
 ⟨some 90,none,.mv false (.s 6)⟩,
 ⟨some 91,none,.bin .add (.s 89) (.s 90)⟩,
 ⟨some 92,none,.mv false (.s 5)⟩,
 ⟨some 93,none,.bin .sub (.s 92) (.c (i64 7))⟩,
 ⟨some 94,none,.idxArr 64 1 (.s 3) (.s 93)⟩,
 ⟨some 95,none,.load none (some 3) false (.s 94)⟩,
 ⟨some 96,none,.bin .add (.s 91) (.s 95)⟩,
 ⟨some 97,none,.mv false (.s 7)⟩,
 ⟨some 98,none,.bin .add (.s 96) (.s 97)⟩,
 ⟨some 99,none,.idxArr 64 1 (.s 3) (.s 85)⟩,
 ⟨none,none,.store none 3 false (.s 99) (.s 98)⟩])))) (
 .region [2,3,5] [] [
 ⟨some 49,none,.mv false (.s 5)⟩,
 ⟨some 50,none,.bin .add (.s 49) (.c (i64 1))⟩,
 ⟨some 5,none,.mv false (.s 50)⟩])))))) (
 .seq (
 .region [2] [.norm [2,3]] [
 ⟨some 100,none,.load (some 64) (some 3) false (.s 3)⟩,
 ⟨none,none,.store (some 64) 2 false (.s 2) (.s 100)⟩]) (
 .ret)))))}

def z2i:z2t:=
 {n:=2,wr:=[],res:=[.t 4],body:=
 .seq (
 .region [] [] [
 ⟨some 4,none,.mv false (.c (u32 0))⟩]) (
 .seq (
 .region [4] [] [
 ⟨some 5,none,.mv false (.s 0)⟩,
 ⟨some 6,none,.mv false (.s 1)⟩,
 ⟨some 7,none,.bin .shr (.s 5) (.s 6)⟩,
 ⟨some 8,none,.mv false (.s 0)⟩,
 ⟨some 9,none,.mv false (.s 1)⟩,
 ⟨some 10,none,.bin .sub (.c (i64 32)) (.s 9)⟩,
 ⟨some 11,none,.bin .shl (.s 8) (.s 10)⟩,
 ⟨some 12,none,.bin .or (.s 7) (.s 11)⟩,
 ⟨some 4,none,.mv false (.s 12)⟩]) (
 .ret))}

def z0h:z2t:=
 {n:=1,wr:=[],res:=[.cell 2 (some 16) 2],body:=
 .seq (
 .region [2] [.norm [2]] [
 ⟨some 2,none,.alloc 2 (bys (z4c 16))⟩]) (
 .seq (
 .region [2,3] [.norm [2,3]] [
 ⟨some 6,none,.mv false (.s 0)⟩,
 ⟨some 7,none,.call 15 [(.s 6)] []⟩,
 ⟨some 3,none,.alloc 3 (bys (z4c 32))⟩,
 ⟨none,none,.store (some 32) 3 false (.s 3) (.s 7)⟩]) (
 .seq (
 .region [2,3,4] [.norm [2,3,4]] [
 ⟨some 8,none,.build (bys (z4c 16)) []⟩,
 ⟨some 4,none,.alloc 4 (bys (z4c 16))⟩,
 ⟨none,none,.store (some 16) 4 false (.s 4) (.s 8)⟩]) (
 .seq (
 .seq (
 .region [2,3,4,5] [] [
 ⟨some 5,none,.mv false (.c (i64 0))⟩]) (
 .block 0 (
 .loop (
 .seq (
 .seq (
 .region [2,3,4,5,10] [] [
 ⟨some 9,none,.mv false (.s 5)⟩,
 ⟨some 10,none,.bin .lss (.s 9) (.c (i64 16))⟩]) (
 .cond (.s 10) (
 .ghost (.keep [2,3,4,5]) .skip) (
 .ghost (.keep [2,4]) (.exit 0)))) (
 .seq (
 .block 1 (
 .region [2,3,4,5] [.norm [2,3,4]] [
 ⟨some 13,none,.mv false (.s 5)⟩,
 ⟨some 14,none,.mv false (.s 5)⟩,
 ⟨some 15,none,.idxArr 32 1 (.s 3) (.s 14)⟩,
 ⟨some 16,none,.load none (some 3) false (.s 15)⟩,
 ⟨some 17,none,.idxArr 16 1 (.s 4) (.s 13)⟩,
 ⟨none,none,.store none 4 false (.s 17) (.s 16)⟩])) (
 .region [2,3,4,5] [] [
 ⟨some 11,none,.mv false (.s 5)⟩,
 ⟨some 12,none,.bin .add (.s 11) (.c (i64 1))⟩,
 ⟨some 5,none,.mv false (.s 12)⟩])))))) (
 .seq (
 .region [2] [.norm [2,3,4]] [
 ⟨some 18,none,.load (some 16) (some 4) false (.s 4)⟩,
 ⟨none,none,.store (some 16) 2 false (.s 2) (.s 18)⟩]) (
 .ret)))))}

def z9g:z2t:=
 {n:=1,wr:=[],res:=[.t 2],body:=
 .seq (
 .region [] [] [
 ⟨some 2,none,.mv true (.c (.sl (.own 1) none 0 []))⟩]) (
 .seq (
 .region [2] [] [
 ⟨some 3,none,.mv false (.s 0)⟩,
 ⟨some 4,none,.len true (.s 3)⟩,
 ⟨some 5,none,.call 30 [(.s 4)] []⟩,
 ⟨some 6,none,.mv false (.s 0)⟩,
 ⟨some 7,none,.toBytes (.s 6)⟩,
 ⟨some 8,none,.append 1 1 false none none 5 (.s 7)⟩,
 ⟨some 2,none,.mv true (.s 8)⟩]) (
 .ret))}

end Go.Abs
end

section
namespace Go.Abs
set_option maxRecDepth 100000
def z0N:z4a:=
 .seq (
 .block 3 (
 .seq (
 .region [2,3,4,5,6,7,8,9] [.norm [2,3,6,7]] [
 ⟨some 34,none,.idxArr 8 1 (.s 7) (.c (i64 7))⟩,
 ⟨some 35,none,.load none (some 7) false (.s 34)⟩,
 ⟨some 36,none,.idxArr 8 1 (.s 7) (.c (i64 4))⟩,
 ⟨some 37,none,.load none (some 7) false (.s 36)⟩,
 ⟨some 38,none,.call 26 [(.s 37),(.c (i64 6))] []⟩,
 ⟨some 39,none,.idxArr 8 1 (.s 7) (.c (i64 4))⟩,
 ⟨some 40,none,.load none (some 7) false (.s 39)⟩,
 ⟨some 41,none,.call 26 [(.s 40),(.c (i64 11))] []⟩,
 ⟨some 42,none,.bin .xor (.s 38) (.s 41)⟩,
 ⟨some 43,none,.idxArr 8 1 (.s 7) (.c (i64 4))⟩,
 ⟨some 44,none,.load none (some 7) false (.s 43)⟩,
 ⟨some 45,none,.call 26 [(.s 44),(.c (i64 25))] []⟩,
 ⟨some 46,none,.bin .xor (.s 42) (.s 45)⟩,
 ⟨some 47,none,.bin .add (.s 35) (.s 46)⟩,
 ⟨some 48,none,.idxArr 8 1 (.s 7) (.c (i64 4))⟩,
 ⟨some 49,none,.load none (some 7) false (.s 48)⟩,
 ⟨some 50,none,.idxArr 8 1 (.s 7) (.c (i64 5))⟩,
 ⟨some 51,none,.load none (some 7) false (.s 50)⟩,
 ⟨some 52,none,.bin .and (.s 49) (.s 51)⟩,
 ⟨some 53,none,.idxArr 8 1 (.s 7) (.c (i64 4))⟩,
 ⟨some 54,none,.load none (some 7) false (.s 53)⟩,
 ⟨some 55,none,.bin .xor (.s 54) (.c (u32 4294967295))⟩,
 ⟨some 56,none,.idxArr 8 1 (.s 7) (.c (i64 6))⟩,
 ⟨some 57,none,.load none (some 7) false (.s 56)⟩,
 ⟨some 58,none,.bin .and (.s 55) (.s 57)⟩,
 ⟨some 59,none,.bin .xor (.s 52) (.s 58)⟩,
 ⟨some 60,none,.bin .add (.s 47) (.s 59)⟩,
 ⟨some 61,none,.mv false (.s 8)⟩,
 ⟨some 62,none,.idxArr 64 1 (.g 1) (.s 61)⟩,
 ⟨some 63,none,.load none none false (.s 62)⟩,
 ⟨some 64,none,.bin .add (.s 60) (.s 63)⟩,
 ⟨some 65,none,.mv false (.s 8)⟩,
 ⟨some 66,none,.idxArr 64 1 (.s 6) (.s 65)⟩,
 ⟨some 67,none,.load none (some 6) false (.s 66)⟩,
 ⟨some 68,none,.bin .add (.s 64) (.s 67)⟩,
 ⟨some 9,none,.mv false (.s 68)⟩]) (
 .seq (
 .region [2,3,4,5,6,7,8,9,10] [.norm [2,3,6,7]] [
 ⟨some 69,none,.idxArr 8 1 (.s 7) (.c (i64 0))⟩,
 ⟨some 70,none,.load none (some 7) false (.s 69)⟩,
 ⟨some 71,none,.call 26 [(.s 70),(.c (i64 2))] []⟩,
 ⟨some 72,none,.idxArr 8 1 (.s 7) (.c (i64 0))⟩,
 ⟨some 73,none,.load none (some 7) false (.s 72)⟩,
 ⟨some 74,none,.call 26 [(.s 73),(.c (i64 13))] []⟩,
 ⟨some 75,none,.bin .xor (.s 71) (.s 74)⟩,
 ⟨some 76,none,.idxArr 8 1 (.s 7) (.c (i64 0))⟩,
 ⟨some 77,none,.load none (some 7) false (.s 76)⟩,
 ⟨some 78,none,.call 26 [(.s 77),(.c (i64 22))] []⟩,
 ⟨some 79,none,.bin .xor (.s 75) (.s 78)⟩,
 ⟨some 80,none,.idxArr 8 1 (.s 7) (.c (i64 0))⟩,
 ⟨some 81,none,.load none (some 7) false (.s 80)⟩,
 ⟨some 82,none,.idxArr 8 1 (.s 7) (.c (i64 1))⟩,
 ⟨some 83,none,.load none (some 7) false (.s 82)⟩,
 ⟨some 84,none,.bin .and (.s 81) (.s 83)⟩,
 ⟨some 85,none,.idxArr 8 1 (.s 7) (.c (i64 0))⟩,
 ⟨some 86,none,.load none (some 7) false (.s 85)⟩,
 ⟨some 87,none,.idxArr 8 1 (.s 7) (.c (i64 2))⟩,
 ⟨some 88,none,.load none (some 7) false (.s 87)⟩,
 ⟨some 89,none,.bin .and (.s 86) (.s 88)⟩,
 ⟨some 90,none,.bin .xor (.s 84) (.s 89)⟩,
 ⟨some 91,none,.idxArr 8 1 (.s 7) (.c (i64 1))⟩,
 ⟨some 92,none,.load none (some 7) false (.s 91)⟩,
 ⟨some 93,none,.idxArr 8 1 (.s 7) (.c (i64 2))⟩,
 ⟨some 94,none,.load none (some 7) false (.s 93)⟩,
 ⟨some 95,none,.bin .and (.s 92) (.s 94)⟩,
 ⟨some 96,none,.bin .xor (.s 90) (.s 95)⟩,
 ⟨some 97,none,.bin .add (.s 79) (.s 96)⟩,
 ⟨some 10,none,.mv false (.s 97)⟩]) (
 .region [2,3,4,5,6,7,8] [.norm [2,3,6,7]] [
 ⟨some 98,none,.mv false (.s 9)⟩,
 ⟨some 99,none,.mv false (.s 10)⟩,
 ⟨some 100,none,.bin .add (.s 98) (.s 99)⟩,
 ⟨some 101,none,.idxArr 8 1 (.s 7) (.c (i64 0))⟩,
 ⟨some 102,none,.load none (some 7) false (.s 101)⟩,
 ⟨some 103,none,.idxArr 8 1 (.s 7) (.c (i64 1))⟩,
 ⟨some 104,none,.load none (some 7) false (.s 103)⟩,
 ⟨some 105,none,.idxArr 8 1 (.s 7) (.c (i64 2))⟩,
 ⟨some 106,none,.load none (some 7) false (.s 105)⟩,
 ⟨some 107,none,.idxArr 8 1 (.s 7) (.c (i64 3))⟩,
 ⟨some 108,none,.load none (some 7) false (.s 107)⟩,
 ⟨some 109,none,.mv false (.s 9)⟩,
 ⟨some 110,none,.bin .add (.s 108) (.s 109)⟩,
 ⟨some 111,none,.idxArr 8 1 (.s 7) (.c (i64 4))⟩,
 ⟨some 112,none,.load none (some 7) false (.s 111)⟩,
 ⟨some 113,none,.idxArr 8 1 (.s 7) (.c (i64 5))⟩,
 ⟨some 114,none,.load none (some 7) false (.s 113)⟩,
 ⟨some 115,none,.idxArr 8 1 (.s 7) (.c (i64 6))⟩,
 ⟨some 116,none,.load none (some 7) false (.s 115)⟩,
 ⟨some 117,none,.build [u32 0,u32 0,u32 0,u32 0,u32 0,u32 0,u32 0,u32 0] [(0,1,(.s 100)),(1,1,(.s 102)),(2,1,(.s 104)),(3,1,(.s 106)),(4,1,(.s 110)),(5,1,(.s 112)),(6,1,(.s 114)),(7,1,(.s 116))]⟩,
 ⟨none,none,.store (some 8) 7 false (.s 7) (.s 117)⟩])))) (
 .region [2,3,4,5,6,7,8] [] [
 ⟨some 32,none,.mv false (.s 8)⟩,
 ⟨some 33,none,.bin .add (.s 32) (.c (i64 1))⟩,
 ⟨some 8,none,.mv false (.s 33)⟩])
def z7M:z4a:=
 .seq (
 .seq (
 .region [2,3,4,5,6,7,8,31] [] [
 ⟨some 30,none,.mv false (.s 8)⟩,
 ⟨some 31,none,.bin .lss (.s 30) (.c (i64 64))⟩]) (
 .cond (.s 31) (
 .ghost (.keep [2,3,4,5,6,7,8]) .skip) (
 .ghost (.keep [2,3,4,5,7]) (.exit 2)))) (
 z0N)
def z8M:z4a:=
 .seq (
 .block 5 (
 .region [2,3,4,5,7,11] [.norm [2,3,6,7]] [
 ⟨some 122,none,.mv false (.s 11)⟩,
 ⟨some 123,none,.mv false (.s 11)⟩,
 ⟨some 124,none,.idxArr 8 1 (.s 3) (.s 123)⟩,
 ⟨some 125,none,.load none (some 3) false (.s 124)⟩,
 ⟨some 126,none,.mv false (.s 11)⟩,
 ⟨some 127,none,.idxArr 8 1 (.s 7) (.s 126)⟩,
 ⟨some 128,none,.load none (some 7) false (.s 127)⟩,
 ⟨some 129,none,.bin .add (.s 125) (.s 128)⟩,
 ⟨some 130,none,.idxArr 8 1 (.s 3) (.s 122)⟩,
 ⟨none,none,.store none 3 false (.s 130) (.s 129)⟩])) (
 .region [2,3,4,5,7,11] [] [
 ⟨some 120,none,.mv false (.s 11)⟩,
 ⟨some 121,none,.bin .add (.s 120) (.c (i64 1))⟩,
 ⟨some 11,none,.mv false (.s 121)⟩])
def z6M:z4a:=
 .seq (
 .seq (
 .region [2,3,4,5,7,11,119] [] [
 ⟨some 118,none,.mv false (.s 11)⟩,
 ⟨some 119,none,.bin .lss (.s 118) (.c (i64 8))⟩]) (
 .cond (.s 119) (
 .ghost (.keep [2,3,4,5,7,11]) .skip) (
 .ghost (.keep [2,3,4,5]) (.exit 4)))) (
 z8M)
def z9O:z4a:=
 .seq (
 .region [2,3,4,5,7,11] [] [
 ⟨some 11,none,.mv false (.c (i64 0))⟩]) (
 .block 4 (
 .loop z6M))
def z7O:z4a:=
 .seq (
 .block 1 (
 .seq (
 .region [2,3,4,5,6] [.norm [2,3,6]] [
 ⟨some 23,none,.mv false (.s 4)⟩,
 ⟨some 24,none,.mv false (.s 5)⟩,
 ⟨some 25,none,.mv false (.s 5)⟩,
 ⟨some 26,none,.bin .add (.s 25) (.c (i64 64))⟩,
 ⟨some 27,none,.slSl 1 (.s 23) (some (.s 24)) (some (.s 26)) none⟩,
 ⟨some 28,none,.call 25 [(.s 27)] []⟩,
 ⟨some 6,none,.alloc 6 (z2p (z2j 64))⟩,
 ⟨none,none,.store (some 64) 6 false (.s 6) (.s 28)⟩]) (
 .seq (
 .region [2,3,4,5,6,7] [.norm [2,3,6,7]] [
 ⟨some 29,none,.load (some 8) (some 3) false (.s 3)⟩,
 ⟨some 7,none,.alloc 7 (z2p (z2j 8))⟩,
 ⟨none,none,.store (some 8) 7 false (.s 7) (.s 29)⟩]) (
 .seq (
 .seq (
 .region [2,3,4,5,6,7,8] [] [
 ⟨some 8,none,.mv false (.c (i64 0))⟩]) (
 .block 2 (
 .loop z7M))) (
 z9O))))) (
 .region [2,3,4,5] [.drop [6,7]] [
 ⟨some 21,none,.mv false (.s 5)⟩,
 ⟨some 22,none,.bin .add (.s 21) (.c (i64 64))⟩,
 ⟨some 5,none,.mv false (.s 22)⟩])
def z9M:z4a:=
 .seq (
 .seq (
 .region [2,3,4,5,20] [] [
 ⟨some 17,none,.mv false (.s 5)⟩,
 ⟨some 18,none,.mv false (.s 4)⟩,
 ⟨some 19,none,.len false (.s 18)⟩,
 ⟨some 20,none,.bin .lss (.s 17) (.s 19)⟩]) (
 .cond (.s 20) (
 .ghost (.keep [2,3,4,5]) .skip) (
 .ghost (.keep [2,3]) (.exit 0)))) (
 z7O)
def z5M:z4a:=
 .seq (
 .block 7 (
 .region [2,3,12,13] [.norm [2,3,6,7,12]] [
 ⟨some 135,none,.mv false (.s 13)⟩,
 ⟨some 136,none,.mv false (.s 13)⟩,
 ⟨some 137,none,.bin .quo (.s 136) (.c (i64 4))⟩,
 ⟨some 138,none,.idxArr 8 1 (.s 3) (.s 137)⟩,
 ⟨some 139,none,.load none (some 3) false (.s 138)⟩,
 ⟨some 140,none,.mv false (.s 13)⟩,
 ⟨some 141,none,.bin .rem (.s 140) (.c (i64 4))⟩,
 ⟨some 142,none,.bin .mul (.c (i64 8)) (.s 141)⟩,
 ⟨some 143,none,.bin .sub (.c (i64 24)) (.s 142)⟩,
 ⟨some 144,none,.bin .shr (.s 139) (.s 143)⟩,
 ⟨some 145,none,.toInt .u8 (.s 144)⟩,
 ⟨some 146,none,.idxArr 32 1 (.s 12) (.s 135)⟩,
 ⟨none,none,.store none 12 false (.s 146) (.s 145)⟩])) (
 .region [2,3,12,13] [] [
 ⟨some 133,none,.mv false (.s 13)⟩,
 ⟨some 134,none,.bin .add (.s 133) (.c (i64 1))⟩,
 ⟨some 13,none,.mv false (.s 134)⟩])
def z3O:z4a:=
 .seq (
 .seq (
 .region [2,3,12,13,132] [] [
 ⟨some 131,none,.mv false (.s 13)⟩,
 ⟨some 132,none,.bin .lss (.s 131) (.c (i64 32))⟩]) (
 .cond (.s 132) (
 .ghost (.keep [2,3,12,13]) .skip) (
 .ghost (.keep [2,12]) (.exit 6)))) (
 z5M)
def z1N:z4a:=
 .seq (
 .region [2] [.norm [2,3,6,7,12]] [
 ⟨some 147,none,.load (some 32) (some 12) false (.s 12)⟩,
 ⟨none,none,.store (some 32) 2 false (.s 2) (.s 147)⟩]) (
 .ret)
def z5O:z4a:=
 .seq (
 .region [2,3,12] [.norm [2,3,6,7,12]] [
 ⟨some 12,none,.alloc 12 (bys (z4c 32))⟩]) (
 .seq (
 .seq (
 .region [2,3,12,13] [] [
 ⟨some 13,none,.mv false (.c (i64 0))⟩]) (
 .block 6 (
 .loop z3O))) (
 z1N))
def z1j:z2t:=
 {n:=1,wr:=[],res:=[.cell 2 (some 32) 2],body:=
 .seq (
 .region [2] [.norm [2]] [
 ⟨some 2,none,.alloc 2 (bys (z4c 32))⟩]) (
 .seq (
 .region [2,3] [.norm [2,3]] [
 ⟨some 14,none,.build [u32 0,u32 0,u32 0,u32 0,u32 0,u32 0,u32 0,u32 0] [(0,1,(.c (u32 1779033703))),(1,1,(.c (u32 3144134277))),(2,1,(.c (u32 1013904242))),(3,1,(.c (u32 2773480762))),(4,1,(.c (u32 1359893119))),(5,1,(.c (u32 2600822924))),(6,1,(.c (u32 528734635))),(7,1,(.c (u32 1541459225)))]⟩,
 ⟨some 3,none,.alloc 3 (z2p (z2j 8))⟩,
 ⟨none,none,.store (some 8) 3 false (.s 3) (.s 14)⟩]) (
 .seq (
 .region [2,3,4] [] [
 ⟨some 15,none,.mv false (.s 0)⟩,
 ⟨some 16,none,.call 24 [(.s 15)] []⟩,
 ⟨some 4,none,.mv true (.s 16)⟩]) (
 .seq (
 .seq (
 .region [2,3,4,5] [] [
 ⟨some 5,none,.mv false (.c (i64 0))⟩]) (
 .block 0 (
 .loop z9M))) (
 z5O))))}

def z0P:z4a:=
 .block 1 (
 .seq (
 .region [3,4] [] [
 ⟨some 16,none,.mv true (.s 4)⟩,
 ⟨some 17,none,.mv false (.s 3)⟩,
 ⟨some 18,none,.bin .rem (.s 17) (.c (i64 256))⟩,
 ⟨some 19,none,.toInt .u8 (.s 18)⟩,
 ⟨some 20,none,.buildSl 1 1 [u8 0] [(0,1,(.s 19))]⟩,
 ⟨some 21,none,.append 1 1 false none none 16 (.s 20)⟩,
 ⟨some 4,none,.mv true (.s 21)⟩]) (
 .region [3,4] [] [
 ⟨some 22,none,.mv false (.s 3)⟩,
 ⟨some 23,none,.bin .quo (.s 22) (.c (i64 256))⟩,
 ⟨some 3,none,.mv false (.s 23)⟩]))
def z6O:z4a:=
 .seq (
 .seq (
 .region [3,4,15] [] [
 ⟨some 14,none,.mv false (.s 3)⟩,
 ⟨some 15,none,.bin .gtr (.s 14) (.c (i64 0))⟩]) (
 .cond (.s 15) (
 .ghost (.keep [3,4]) .skip) (
 .ghost (.keep [4]) (.exit 0)))) (
 z0P)
def z0O:z4a:=
 .region [4,6,7] [] [
 ⟨some 54,none,.mv true (.s 6)⟩,
 ⟨some 55,none,.mv false (.s 8)⟩,
 ⟨some 56,none,.buildSl 1 1 [u8 0] [(0,1,(.s 55))]⟩,
 ⟨some 57,none,.append 1 1 false none none 54 (.s 56)⟩,
 ⟨some 6,none,.mv true (.s 57)⟩]
def z4O:z4a:=
 .seq (
 .block 3 (
 .seq (
 .region [4,6,7,8] [] [
 ⟨some 46,none,.mv false (.s 4)⟩,
 ⟨some 47,none,.mv false (.s 7)⟩,
 ⟨some 48,none,.idxSl 1 (.s 46) (.s 47)⟩,
 ⟨some 49,none,.load none none false (.s 48)⟩,
 ⟨some 8,none,.mv false (.s 49)⟩]) (
 .seq (
 .seq (
 .region [4,6,7,8,51] [] [
 ⟨some 50,none,.mv false (.s 0)⟩,
 ⟨some 51,none,.bin .lss (.s 50) (.c (i64 0))⟩]) (
 .cond (.s 51) (
 .region [4,6,7,8] [] [
 ⟨some 52,none,.mv false (.s 8)⟩,
 ⟨some 53,none,.bin .sub (.c (u8 255)) (.s 52)⟩,
 ⟨some 8,none,.mv false (.s 53)⟩]) (
 .ghost (.keep [4,6,7,8]) .skip))) (
 z0O)))) (
 .region [4,6,7] [] [
 ⟨some 44,none,.mv false (.s 7)⟩,
 ⟨some 45,none,.bin .sub (.s 44) (.c (i64 1))⟩,
 ⟨some 7,none,.mv false (.s 45)⟩])
def z8O:z4a:=
 .seq (
 .seq (
 .region [4,6,7,43] [] [
 ⟨some 42,none,.mv false (.s 7)⟩,
 ⟨some 43,none,.bin .geq (.s 42) (.c (i64 0))⟩]) (
 .cond (.s 43) (
 .ghost (.keep [4,6,7]) .skip) (
 .ghost (.keep [6]) (.exit 2)))) (
 z4O)
def z4N:z4a:=
 .seq (
 .region [2] [] [
 ⟨some 58,none,.mv true (.s 6)⟩,
 ⟨some 2,none,.mv true (.s 58)⟩]) (
 .ret)
def z2N:z4a:=
 .seq (
 .seq (
 .region [4,6,7] [] [
 ⟨some 40,none,.mv false (.s 5)⟩,
 ⟨some 41,none,.bin .sub (.s 40) (.c (i64 1))⟩,
 ⟨some 7,none,.mv false (.s 41)⟩]) (
 .block 2 (
 .loop z8O))) (
 z4N)
def z6N:z4a:=
 .seq (
 .region [4,5] [] [
 ⟨some 24,none,.mv false (.s 4)⟩,
 ⟨some 25,none,.len false (.s 24)⟩,
 ⟨some 5,none,.mv false (.s 25)⟩]) (
 .seq (
 .region [4,5,6] [] [
 ⟨some 6,none,.mv true (.c (.sl (.own 1) none 0 []))⟩]) (
 .seq (
 .seq (
 .region [4,5,6,27] [] [
 ⟨some 26,none,.mv false (.s 0)⟩,
 ⟨some 27,none,.bin .geq (.s 26) (.c (i64 0))⟩]) (
 .cond (.s 27) (
 .region [4,5,6] [] [
 ⟨some 28,none,.mv true (.s 6)⟩,
 ⟨some 29,none,.mv false (.s 5)⟩,
 ⟨some 30,none,.bin .add (.c (i64 128)) (.s 29)⟩,
 ⟨some 31,none,.toInt .u8 (.s 30)⟩,
 ⟨some 32,none,.buildSl 1 1 [u8 0] [(0,1,(.s 31))]⟩,
 ⟨some 33,none,.append 1 1 false none none 28 (.s 32)⟩,
 ⟨some 6,none,.mv true (.s 33)⟩]) (
 .region [4,5,6] [] [
 ⟨some 34,none,.mv true (.s 6)⟩,
 ⟨some 35,none,.mv false (.s 5)⟩,
 ⟨some 36,none,.bin .sub (.c (i64 127)) (.s 35)⟩,
 ⟨some 37,none,.toInt .u8 (.s 36)⟩,
 ⟨some 38,none,.buildSl 1 1 [u8 0] [(0,1,(.s 37))]⟩,
 ⟨some 39,none,.append 1 1 false none none 34 (.s 38)⟩,
 ⟨some 6,none,.mv true (.s 39)⟩]))) (
 z2N)))
def z8N:z4a:=
 .seq (
 .region [3,4] [] [
 ⟨some 4,none,.mv true (.c (.sl (.own 1) none 0 []))⟩]) (
 .seq (
 .block 0 (
 .loop z6O)) (
 z6N))
def z0j:z2t:=
 {n:=1,wr:=[],res:=[.t 2],body:=
 .seq (
 .region [] [] [
 ⟨some 2,none,.mv true (.c (.sl (.own 1) none 0 []))⟩]) (
 .seq (
 .region [3] [] [
 ⟨some 9,none,.mv false (.s 0)⟩,
 ⟨some 3,none,.mv false (.s 9)⟩]) (
 .seq (
 .seq (
 .region [3,11] [] [
 ⟨some 10,none,.mv false (.s 0)⟩,
 ⟨some 11,none,.bin .lss (.s 10) (.c (i64 0))⟩]) (
 .cond (.s 11) (
 .region [3] [] [
 ⟨some 12,none,.mv false (.s 0)⟩,
 ⟨some 13,none,.bin .sub (.c (i64 (-1))) (.s 12)⟩,
 ⟨some 3,none,.mv false (.s 13)⟩]) (
 .ghost (.keep [3]) .skip))) (
 z8N)))}

end Go.Abs
end

section
namespace Go.Abs
theorem z4Vb (E:Env):∀ds,z1Ga.pre ds→ds.length=z2i.n∧awp E z2i.body (z1A z2i.res (z1Ga.post ds)) (z9c z2i.wr ds):=by
 rintro _ ⟨x,n,h0,h1,rfl⟩
 simp(maxSteps:=1000000) (disch:=first|omega|(simp;done)|(simp;omega)) [z9a,z1a,z0a,z2i]
 refine⟨by omega,by omega,?_⟩
 rw[z1U,show((32:Int)-n).toNat=32-n.toNat by omega]
theorem z9Cb (E:Env) (h15:E.G 15=z8Oa):∀ds,z5ma.pre ds→ds.length=z0h.n∧awp E z0h.body (z1A z0h.res (z5ma.post ds)) (z9c z0h.wr ds):=by
 rintro _ ⟨nl,b,hb,rfl⟩
 have hs:=z5Da b
 simp(maxSteps:=1000000) (disch:=first|omega|(simp;done)|(simp;omega)) [z9a,z1a,z0a,z0h,h15,z2Fb,z0z]
 refine z3a fun Q0 hQ0=> ?_
 refine z4d (fun i:Nat=>⟨[(0,.sl .plain nl b.length (bys b))],[(2,.bp 2 0),(3,.bp 3 0),(4,.bp 4 0),(5,i64 i)],
  [(2,some (bys (z4c 16))),(3,some (bys (sha b))),(4,some (bys ((sha b).take i++z4c (16-i))))]⟩) (fun i=>16-i) (· ≤16) 0 rfl (by simp) fun i hi=> ?_
 refine z3a fun Q1 hQ1=> ?_
 simp(maxSteps:=1000000) (disch:=first|omega|(simp;done)|(simp;omega)) [z9a,z1a,z0a]
 rw[z7b]
 refine⟨by simp,fun h=> ?_,fun h=> ?_⟩<;>simp at h
 ·have hi':i<(sha b).length:=by omega
  have hz:(z4c (16-i)).set 0 (at8 (sha b) i)=at8 (sha b) i::z4c (16-(i+1)):=by
   rw[z8Fa (by omega),show 16-(i+1)=16-1-i by omega];rfl
  simp(maxSteps:=1000000) (disch:=first|omega|(simp;done)|(simp;omega)) [z9a,z1a,z0a,z7ya,z8ja,List.set_append_right]
  repeat' (first|omega|apply And.intro)
  simp only[hs,Nat.min_eq_left (show i≤32 by omega),Nat.sub_self,hz,hQ1]
  simp
  refine⟨i+1,by omega,by omega,by omega,?_⟩
  rw[z23c hi']
  simp
 ·have e:i=16:=by omega
  subst e
  simp[hQ1,hQ0,hs,z4c,z0z,List.take_of_length_le]
theorem z3uc (E:Env) (h21:E.G 21=z9ma) (h28:E.G 28=z5ma):∀ds,z2pb.pre ds→ds.length=z9j.n∧awp E z9j.body (z1A z9j.res (z2pb.post ds)) (z9c z9j.wr ds):=by
 rintro _ ⟨tag,nl,l,hl,rfl⟩
 have h1:=z8C (l:=l) (by omega)
 have h2:(z22 tag l).length<1099511000000:=by simp only[z22,List.length_cons];omega
 simp(maxSteps:=1000000) (disch:=first|omega|(simp;done)|(simp;omega)) [z9a,z1a,z0a,z9j,h21,h28,z1mb,z6bb,z0z,z5G,List.take_take]
theorem z8ib (E:Env) (h30:E.G 30=z8xa):∀ds,z54.pre ds→ds.length=z9g.n∧awp E z9g.body (z1A z9g.res (z54.post ds)) (z9c z9g.wr ds):=by
 rintro _ ⟨s,hs,rfl⟩
 have hl:=z4l (n:=s.length) ⟨by omega,by omega⟩
 simp(maxSteps:=1000000) (disch:=first|omega|(simp;done)|(simp;omega)) [z9a,z1a,z0a,z9g,h30,z9oa,z3U]
 omega
theorem z5Eb (E:Env) (h29:E.G 29=z54):∀ds,z9ma.pre ds→ds.length=z1h.n∧awp E z1h.body (z1A z1h.res (z9ma.post ds)) (z9c z1h.wr ds):=by
 rintro _ ⟨tag,nl,l,hl,rfl⟩
 have hn:=z2ea l
 simp(maxSteps:=1000000) (disch:=first|omega|(simp;done)|(simp;omega)) [z9a,z1a,z0a,z1h]
 refine z3a fun Q0 hQ0=> ?_
 refine z4d (fun i:Nat=>⟨[(0,i64 tag),(1,.sl .plain nl l.length (sts l))],[(5,.sl (.own 1) (some false) (z22 tag (l.take i)).length (bys (z22 tag (l.take i)))),(6,i64 i)],[]⟩) (fun i=>l.length-i) (· ≤l.length) 0 rfl (by simp) fun i hi=> ?_
 refine z3a fun Q1 hQ1=> ?_
 simp(maxSteps:=1000000) (disch:=first|omega|(simp;done)|(simp;omega)) [z9a,z1a,z0a]
 rw[z7b]
 refine⟨by simp,fun h=> ?_,fun h=> ?_⟩<;>simp at h
 ·have hi':i<l.length:=by omega
  have h3:=z2sa hi'
  have h5:z22 tag (l.take (i+1))=z22 tag (l.take i)++z3U (atS l i):=by rw[z22,z22,z1p _ _ [] hi'];rfl
  have h6:(z22 tag (l.take i)).length+(z3U (atS l i)).length≤1099511627776:=by
   rw[←List.length_append,←h5,z22,List.length_cons]
   have:=z8C (l:=l.take (i+1)) (by have:=z7Ia l (i+1);omega)
   have:=z7Ia l (i+1)
   omega
  simp(maxSteps:=1000000) (disch:=first|omega|(simp;done)|(simp;omega)) [z9a,z1a,z0a,z7Kb,h29,z8ya]
  refine⟨hi',by omega,h6,?_⟩
  simp[hQ1]
  refine⟨i+1,by omega,by omega,⟨?_,?_⟩,by omega⟩<;>rw[h5]
  simp
 ·have e:i=l.length:=by omega
  subst e
  simp[hQ1,hQ0]
end Go.Abs
end

section
namespace Go.Abs
theorem z4lb (E:Env):∀ds,z27.pre ds→ds.length=z1g.n∧awp E z1g.body (z1A z1g.res (z27.post ds)) (z9c z1g.wr ds):=by
 rintro _ ⟨nl,b,hb,rfl⟩
 have hn:(UInt64.ofNat b.length).toNat=b.length:=by rw[UInt64.toNat_ofNat'];omega
 have ho:UInt64.ofInt (b.length:Int)=UInt64.ofNat b.length:=by
  apply UInt64.toNat_inj.1
  rw[z6la,UInt64.toNat_ofNat']
  omega
 have hz:=z2Wa b.length
 have hzo:=z7Ua b.length
 simp(maxSteps:=1000000) (disch:=first|omega|(simp;done)|(simp;omega)) [z9a,z1a,z0a,z1g]
 refine⟨by omega,by omega,?_⟩
 refine z3a fun Q0 hQ0=> ?_
 refine z4d (fun k:Nat=>⟨[(0,.sl .plain nl b.length (bys b))],[(3,.sl (.own 1) (some false) (b.length+1+k) (bys (b++128::z4c k)))],[]⟩)
  (fun k=>z1xa b.length-k) (· ≤z1xa b.length) 0 rfl (by simp) fun k hk=> ?_
 refine z3a fun Q1 hQ1=> ?_
 simp(maxSteps:=1000000) (disch:=first|omega|(simp;done)|(simp;omega)) [z9a,z1a,z0a]
 have e64:((b.length:Int)+1+(k:Int)).tmod 64=((b.length+1+k)% 64:Nat):=by rw[Int.tmod_eq_emod_of_nonneg (by omega)];omega
 rw[z7b]
 refine⟨by simp,fun h=> ?_,fun h=> ?_⟩<;>simp at h
 ·have hk':k<z1xa b.length:=by
   rcases Nat.lt_or_ge k (z1xa b.length) with h3|h3
   ·exact h3
   ·have:k=z1xa b.length:=by omega
    subst this
    omega
  simp(maxSteps:=1000000) (disch:=first|omega|(simp;done)|(simp;omega)) [z9a,z1a,z0a,hQ1]
  refine⟨by omega,k+1,by omega,by omega,by omega,?_⟩
  rw[←z9sa]
 ·have e:k=z1xa b.length:=by
   unfold z1xa at hk⊢
   omega
  subst e
  simp(maxSteps:=1000000) (disch:=first|omega|(simp;done)|(simp;omega)) [z9a,z1a,z0a,hQ1,hQ0]
  refine z3a fun Q2 hQ2=> ?_
  refine z4d (fun i:Nat=>⟨[(0,.sl .plain nl b.length (bys b))],[(3,.sl (.own 1) (some false) (b.length+1+z1xa b.length+i) (bys (b++128::z4c (z1xa b.length)++be8 (8*UInt64.ofNat b.length) i))),(4,u64 (8*UInt64.ofNat b.length)),(5,i64 i)],[]⟩)
   (fun i=>8-i) (· ≤8) 0 (by simp[be8,ho]) (by decide) fun i hi=> ?_
  have hbe:=z3la (8*UInt64.ofNat b.length) i
  refine z3a fun Q3 hQ3=> ?_
  simp(maxSteps:=1000000) (disch:=first|omega|(simp;done)|(simp;omega)) [z9a,z1a,z0a]
  rw[z7b]
  refine⟨by simp,fun h=> ?_,fun h=> ?_⟩<;>simp at h
  ·have e7:((56:Int)-8*(i:Int)).toNat=56-8*i:=by omega
   simp(maxSteps:=1000000) (disch:=first|omega|(simp;done)|(simp;omega)) [z9a,z1a,z0a,e7]
   refine⟨by omega,by omega,?_⟩
   rw[hQ3]
   simp
   refine⟨i+1,by omega,by omega,⟨by omega,?_⟩,by omega⟩
   rw[be8]
  ·have e:i=8:=by omega
   subst e
   simp[hQ3,hQ2,z3M,z8Sa,hn,z3la]
   omega
theorem z6sb (x y:UInt32) (n:Nat):z2ca (x|||y) n=z2ca x n|||z2ca y n:=by
 apply UInt32.toBitVec_inj.1
 exact BitVec.shiftLeft_or_distrib x.toBitVec y.toBitVec n
theorem z6Va (x:UInt32) (m n:Nat):z2ca (z2ca x m) n=z2ca x (m+n):=by
 apply UInt32.toBitVec_inj.1
 exact(BitVec.shiftLeft_add x.toBitVec m n).symm
theorem z4Xc (b:List UInt8) (t:Nat):ldw b t 4=z2ca (at8 b (4*t)).toUInt32 24|||z2ca (at8 b (4*t+1)).toUInt32 16|||z2ca (at8 b (4*t+2)).toUInt32 8|||(at8 b (4*t+3)).toUInt32:=by
 have h0:z2ca 0 8=0:=rfl
 have h1:∀x:UInt32,0|||x=x:=fun x=>by simp
 simp only[ldw,z6sb,z6Va,h0,h1,Nat.add_zero]
theorem z1zb (E:Env) (h26:E.G 26=z1Ga):∀ds,z0S.pre ds→ds.length=z8g.n∧awp E z8g.body (z1A z8g.res (z0S.post ds)) (z9c z8g.wr ds):=by
 rintro _ ⟨nl,b,hb,rfl⟩
 simp(maxSteps:=1000000) (disch:=first|omega|(simp;done)|(simp;omega)) [z9a,z1a,z0a,z8g]
 refine z3a fun Q0 hQ0=> ?_
 refine z4d (fun t:Nat=>⟨[(0,.sl .plain nl 64 (bys b))],[(2,.bp 2 0),(3,.bp 3 0),(4,i64 t)],[(2,some (z2p (z2j 64))),(3,some (z2p (z3k b t++z2j (64-t))))]⟩)
  (fun t=>16-t) (· ≤16) 0 rfl (by decide) fun t ht=> ?_
 have hl:=z8p b t
 refine z3a fun Q1 hQ1=> ?_
 simp(maxSteps:=1000000) (disch:=first|omega|(simp;done)|(simp;omega)) [z9a,z1a,z0a]
 rw[z7b]
 refine⟨by simp,fun h=> ?_,fun h=> ?_⟩<;>simp at h
 ·have h4:(4*(t:Int)).toNat=4*t:=by omega
  have h41:(4*(t:Int)+1).toNat=4*t+1:=by omega
  have h42:(4*(t:Int)+2).toNat=4*t+2:=by omega
  have h43:(4*(t:Int)+3).toNat=4*t+3:=by omega
  simp(maxSteps:=1000000) (disch:=first|omega|(simp;done)|(simp;omega)) [z9a,z1a,z0a,z7ya,h4,h41,h42,h43,z1D,z3sa,z3ba (show t<64 by omega)]
  repeat' (first|omega|apply And.intro)
  simp[hQ1]
  refine⟨t+1,by omega,by omega,by omega,?_⟩
  rw[z3k,z0xa,if_pos (by omega),show 64-(t+1)=63-t by omega,z4Xc]
  simp
 ·have e:t=16:=by omega
  subst e
  simp(maxSteps:=1000000) (disch:=first|omega|(simp;done)|(simp;omega)) [z9a,z1a,z0a,hQ1,hQ0]
  refine z3a fun Q2 hQ2=> ?_
  refine z4d (fun t:Nat=>⟨[(0,.sl .plain nl 64 (bys b))],[(2,.bp 2 0),(3,.bp 3 0),(5,i64 t)],[(2,some (z2p (z2j 64))),(3,some (z2p (z3k b t++z2j (64-t))))]⟩)
   (fun t=>64-t) (fun t=>16≤t∧t≤64) 16 rfl (by decide) fun t ht=> ?_
  have hl:=z8p b t
  refine z3a fun Q3 hQ3=> ?_
  simp(maxSteps:=1000000) (disch:=first|omega|(simp;done)|(simp;omega)) [z9a,z1a,z0a]
  rw[z7b]
  refine⟨by simp,fun h2=> ?_,fun h2=> ?_⟩<;>simp at h2
  ·simp(maxSteps:=1000000) (disch:=first|omega|(simp;done)|(simp;omega)) [z9a,z1a,z0a,h26,z6Za,z8S,z1D,z04a]
   repeat' (first|omega|apply And.intro)
   simp[hQ3]
   refine⟨t+1,by omega,by omega,by omega,?_⟩
   rw[z3k,z0xa,if_neg (by omega),show 64-(t+1)=63-t by omega,z3ba (by omega),show((t:Int)-16).toNat=t-16 by omega,show((t:Int)-15).toNat=t-15 by omega,show((t:Int)-7).toNat=t-7 by omega,show((t:Int)-2).toNat=t-2 by omega]
   simp[sg0,sg1]
  ·have e:t=64:=by omega
   subst e
   simp(disch:=simp[hl]) [hQ3,hQ2,z8f,hl,List.take_of_length_le,z2j]
end Go.Abs
end

section
namespace Go.Abs
theorem z1Gb (x:UInt32):x^^^4294967295= ~~~x:=by
 apply UInt32.toBitVec_inj.1
 exact BitVec.xor_allOnes
theorem z1Ab {l:List UInt32} (h:1<l.length):hdA (z2p l).tail=u32 (z6p l 1):=by
 rw[←List.drop_one,z7ua,z8S h]
def z3Wb (s v:List UInt32):Nat→List UInt32
 |0=>s
 |t+1=>(z3Wb s v t).set t (z6p (z3Wb s v t) t+z6p v t)
theorem z91a (s v:List UInt32):∀t,(z3Wb s v t).length=s.length
 |0=>rfl
 |t+1=>by simp[z3Wb,z91a s v t]
theorem z9pc (s v:H8):z3Wb s.l v.l 8=(s.add v).l:=rfl
set_option maxHeartbeats 4000000 in
theorem z19b (E:Env) (hT1:E.T 1=z2p kc) (h24:E.G 24=z27) (h25:E.G 25=z0S) (h26:E.G 26=z1Ga):∀ds,z8Oa.pre ds→ds.length=z1j.n∧awp E z1j.body (z1A z1j.res (z8Oa.post ds)) (z9c z1j.wr ds):=by
 rintro _ ⟨nl,b,hb,rfl⟩
 obtain⟨hp1,hp2,hp3⟩:=z5la (b:=b) (by omega)
 generalize hm:z3M b=m at*
 have hkc:kc.length=64:=rfl
 simp(maxSteps:=1000000) (disch:=first|omega|(simp;done)|(simp;omega)) [z9a,z1a,z0a,z1j,h24,z29a,hm,z8f]
 refine z3a fun Q0 hQ0=> ?_
 refine z4d (fun k:Nat=>⟨[(0,.sl .plain nl b.length (bys b))],[(2,.bp 2 0),(3,.bp 3 0),(4,.sl (.own 1) (some false) m.length (bys m)),(5,i64 (64*k:Nat))],
   [(2,some (bys (z4c 32))),(3,some (z2p (blk m iv k).l))]⟩)
  (fun k=>m.length-64*k) (fun k=>64*k≤m.length) 0 rfl (by simp) fun k hk=> ?_
 generalize hs:blk m iv k=s at*
 refine z3a fun Q1 hQ1=> ?_
 simp(maxSteps:=1000000) (disch:=first|omega|(simp;done)|(simp;omega)) [z9a,z1a,z0a,z9M]
 rw[z7b]
 refine⟨by simp,fun h=> ?_,fun h=> ?_⟩<;>simp at h
 ·have hb64:((m.drop (64*k)).take 64).length=64:=by simp;omega
  generalize hB:(m.drop (64*k)).take 64=B at*
  have hl:=z8p B 64
  have e1:(64*(k:Int)+64).toNat-64*k=64:=by omega
  have e2:(64*(k:Int)).toNat=64*k:=by omega
  simp(maxSteps:=1000000) (disch:=first|omega|(simp;done)|(simp;omega)) [z9a,z1a,z0a,z7O,h25,z4kb,e1,e2,hB,hl,z8f]
  refine⟨by omega,?_⟩
  refine z3a fun Q2 hQ2=> ?_
  have hs8:s.l.take 8=s.l:=rfl
  refine z4d (fun t:Nat=>⟨[(0,.sl .plain nl b.length (bys b))],[(2,.bp 2 0),(3,.bp 3 0),(4,.sl (.own 1) (some false) m.length (bys m)),(5,i64 (64*k:Nat)),(6,.bp 6 0),(7,.bp 7 0),(8,i64 t)],
    [(2,some (bys (z4c 32))),(3,some (z2p s.l)),(6,some (z2p (z3k B 64))),(7,some (z2p (z6wa (z3k B 64) s t).l))]⟩)
   (fun t=>64-t) (· ≤64) 0 (by simp[hs8,z6wa]) (by decide) fun t ht=> ?_
  refine z3a fun Q3 hQ3=> ?_
  simp(maxSteps:=1000000) (disch:=first|omega|(simp;done)|(simp;omega)) [z9a,z1a,z0a,z7M]
  rw[z7b]
  refine⟨by simp,fun h2=> ?_,fun h2=> ?_⟩<;>simp at h2
  ·generalize hr:z6wa (z3k B 64) s t=r at*
   have hrl:r.l.length=8:=rfl
   simp(maxSteps:=2000000) (disch:=first|omega|(simp;done)|(simp;omega)) [z0N,z9a,hT1,z8S,z1xb,z1Ab,z8ua,h26,z6Za,hl,hkc,hrl,z8f]
   have hn:[u32 (z6p r.l 7+(z1U (z6p r.l 4) 6^^^z1U (z6p r.l 4) 11^^^z1U (z6p r.l 4) 25)+(z6p r.l 4&&&z6p r.l 5^^^(z6p r.l 4^^^4294967295)&&&z6p r.l 6)+z6p kc t+z6p (z3k B 64) t+((z1U (z6p r.l 0) 2^^^z1U (z6p r.l 0) 13^^^z1U (z6p r.l 0) 22)+(z6p r.l 0&&&z6p r.l 1^^^z6p r.l 0&&&z6p r.l 2^^^z6p r.l 1&&&z6p r.l 2))),
     u32 (z6p r.l 0),u32 (z6p r.l 1),u32 (z6p r.l 2),u32 (z6p r.l 3+(z6p r.l 7+(z1U (z6p r.l 4) 6^^^z1U (z6p r.l 4) 11^^^z1U (z6p r.l 4) 25)+(z6p r.l 4&&&z6p r.l 5^^^(z6p r.l 4^^^4294967295)&&&z6p r.l 6)+z6p kc t+z6p (z3k B 64) t)),u32 (z6p r.l 4),u32 (z6p r.l 5),u32 (z6p r.l 6)]
     =z2p (z6wa (z3k B 64) s (t+1)).l:=by
    rw[z1Gb,z6wa,hr]
    rfl
   rw[hn,hQ3]
   repeat' (first|omega|apply And.intro)
   simp
   exact⟨t+1,by omega,by omega,by omega,rfl⟩
  ·have e:t=64:=by omega
   subst e
   generalize hr:z6wa (z3k B 64) s 64=r at*
   simp(maxSteps:=1000000) (disch:=first|omega|(simp;done)|(simp;omega)) [z9a,z1a,z0a,hQ3,hQ2,z9O]
   refine z3a fun Q4 hQ4=> ?_
   clear hQ3 hQ2
   refine z4d (fun t:Nat=>⟨[(0,.sl .plain nl b.length (bys b))],[(2,.bp 2 0),(3,.bp 3 0),(4,.sl (.own 1) (some false) m.length (bys m)),(5,i64 (64*k:Nat)),(7,.bp 7 0),(11,i64 t)],
     [(2,some (bys (z4c 32))),(3,some (z2p (z3Wb s.l r.l t))),(6,some (z2p (z3k B 64))),(7,some (z2p r.l))]⟩)
    (fun t=>8-t) (· ≤8) 0 (by simp[z3Wb]) (by decide) fun t ht=> ?_
   have hal:=z91a s.l r.l t
   have hsl:s.l.length=8:=rfl
   have hrl:r.l.length=8:=rfl
   refine z3a fun Q5 hQ5=> ?_
   simp(maxSteps:=1000000) (disch:=first|omega|(simp;done)|(simp;omega)) [z9a,z1a,z0a,z6M]
   rw[z7b]
   refine⟨by simp,fun h3=> ?_,fun h3=> ?_⟩<;>simp at h3
   ·simp(maxSteps:=1000000) (disch:=first|omega|(simp;done)|(simp;omega)) [z9a,z1a,z0a,z8M,z8S,z1D]
    repeat' (first|omega|apply And.intro)
    simp[hQ5]
    exact⟨t+1,by omega,by omega,by omega,rfl⟩
   ·have e:t=8:=by omega
    subst e
    simp(maxSteps:=1000000) (disch:=first|omega|(simp;done)|(simp;omega)) [z9a,z1a,z0a,hQ5,hQ4,hQ1]
    refine⟨k+1,by omega,by omega,by omega,?_⟩
    rw[z9pc,blk,hs,hB,z3Pa,hr]
 ·have e:64*k=m.length:=by omega
  simp(maxSteps:=1000000) (disch:=first|omega|(simp;done)|(simp;omega)) [z9a,z1a,z0a,hQ1,hQ0,z5O]
  refine z3a fun Q2 hQ2=> ?_
  clear hQ1 hQ0
  refine z4d (fun i:Nat=>⟨[(0,.sl .plain nl b.length (bys b))],[(2,.bp 2 0),(3,.bp 3 0),(12,.bp 12 0),(13,i64 i)],
    [(2,some (bys (z4c 32))),(3,some (z2p s.l)),(6,none),(7,none),(12,some (bys (z48a s i++z4c (32-i))))]⟩)
   (fun i=>32-i) (· ≤32) 0 rfl (by decide) fun i hi=> ?_
  have ho:=z8oa s i
  refine z3a fun Q3 hQ3=> ?_
  simp(maxSteps:=1000000) (disch:=first|omega|(simp;done)|(simp;omega)) [z9a,z1a,z0a,z3O]
  rw[z7b]
  refine⟨by simp,fun h2=> ?_,fun h2=> ?_⟩<;>simp at h2
  ·have hi4:i/4<s.l.length:=by show i/4<8;omega
   have e4:(i:Int).tdiv 4=(i/4:Nat):=by rw[Int.tdiv_eq_ediv_of_nonneg (by omega)];rfl
   have e5:(i:Int).tmod 4=(i% 4:Nat):=by rw[Int.tmod_eq_emod_of_nonneg (by omega)];rfl
   have e4':((i:Int)/4).toNat=i/4:=by omega
   have e6:((24:Int)-8*((i:Int)% 4)).toNat=24-8*(i% 4):=by omega
   simp(maxSteps:=1000000) (disch:=first|omega|(simp;done)|(simp;omega)) [z9a,z1a,z0a,z5M,e4,e5,e6,e4',z8S,z8ja,z3sa,z8Fa (show i<32 by omega)]
   repeat' (first|omega|apply And.intro)
   simp[hQ3]
   refine⟨i+1,by omega,by omega,by omega,?_⟩
   rw[z48a,show 32-(i+1)=31-i by omega]
   simp
  ·have e:i=32:=by omega
   subst e
   have hk2:m.length/64=k:=by omega
   have hf:sha b=z48a s 32:=by
    rw[z0fb hb,hm,hk2,hs]
   simp[hQ3,hQ2,z1N,z0z,ho,hf,z4c,List.take_of_length_le]
end Go.Abs
end

section
namespace Go.Abs
theorem z5Ab {l:List UInt8} {j:Nat} (h:j<l.length):l.reverse.take (j+1)=l.reverse.take j++[at8 l (l.length-1-j)]:=by
 rw[List.take_succ_eq_append_getElem (by simp;omega),at8,List.getD,List.getElem?_eq_getElem (by omega)]
 simp[List.getElem_reverse]
set_option maxHeartbeats 4000000 in
theorem z3Tb (E:Env):∀ds,z8xa.pre ds→ds.length=z0j.n∧awp E z0j.body (z1A z0j.res (z8xa.post ds)) (z9c z0j.wr ds):=by
 rintro _ ⟨n,⟨hn0,hn1⟩,rfl⟩
 simp(maxSteps:=1000000) (disch:=first|omega|(simp;done)|(simp;omega)) [z9a,z1a,z0a,z0j]
 refine z3a fun Q0 hQ0=> ?_
 have key:Q0 .normal ⟨[(0,i64 n)],[(3,i64 (mag n:Nat))],[]⟩:=by
  have hmag:(mag n:Int)=if n<0 then-1-n else n:=by unfold mag;split<;>omega
  have hm63:mag n<9223372036854775808:=by split at hmag<;>omega
  simp(maxSteps:=1000000) (disch:=first|omega|(simp;done)|(simp;omega)) [z9a,z1a,z0a,hQ0,z8N]
  refine z3a fun Q1 hQ1=> ?_
  refine z4d (fun p:Nat×List UInt8=>⟨[(0,i64 n)],[(3,i64 p.1),(4,.sl (.own 1) none p.2.length (bys p.2))],[]⟩) (fun p=>p.1) (fun p=>p.2++z0fa p.1=z0fa (mag n)∧p.1<9223372036854775808∧p.2.length≤8) (mag n,[]) rfl (by simp;omega) fun p hp=> ?_
  obtain⟨m,l⟩:=p
  obtain⟨h1,h2,h3⟩:=hp
  simp only at h1 h2 h3
  refine z3a fun Q2 hQ2=> ?_
  simp(maxSteps:=1000000) (disch:=first|omega|(simp;done)|(simp;omega)) [z9a,z1a,z0a,z6O]
  rw[z7b]
  refine⟨by simp,fun h=> ?_,fun h=> ?_⟩<;>simp at h
  ·have hl7:l.length≤7:=by
    have:=(z3aa 8 (mag n)).2 (by omega)
    rw[←h1,z5Q (by omega)] at this
    simp at this
    omega
   have e1:(m:Int).tmod 256=((m% 256:Nat):Int):=by rw[Int.tmod_eq_emod_of_nonneg (by omega)];rfl
   have e2:(m:Int).tdiv 256=((m/256:Nat):Int):=by rw[Int.tdiv_eq_ediv_of_nonneg (by omega)];rfl
   have e3:UInt8.ofInt ((m:Int)% 256)=UInt8.ofNat m:=by
    apply UInt8.toNat_inj.1
    rw[z6ma,UInt8.toNat_ofNat']
    omega
   simp(maxSteps:=1000000) (disch:=first|omega|(simp;done)|(simp;omega)) [z9a,z1a,z0a,z0P,e1,e2,e3]
   refine⟨by omega,?_⟩
   simp[hQ2]
   refine⟨m/256,by omega,l++[UInt8.ofNat m],⟨?_,by omega,by simp;omega⟩,by omega,by simp,by simp⟩
   rw[List.append_assoc,List.singleton_append,←z5Q (by omega),h1]
  ·have e:m=0:=by omega
   subst e
   rw[z0B,List.append_nil] at h1
   subst h1
   generalize hD:z0fa (mag n)=D at*
   simp(maxSteps:=1000000) (disch:=first|omega|(simp;done)|(simp;omega)) [z9a,z1a,z0a,hQ2,hQ1,z6N]
   refine z3a fun Q3 hQ3=> ?_
   have key2:∀c,c=flp n (UInt8.ofNat (128+D.length))→Q3 .normal ⟨[(0,i64 n)],[(4,.sl (.own 1) none D.length (bys D)),(5,i64 D.length),(6,.sl (.own 1) none 1 (bys [c]))],[]⟩:=by
    intro c hc
    have hfin:z1t n=c::D.reverse.map (flp n):=by rw[z1t,hD,hc]
    clear hc
    simp(maxSteps:=1000000) (disch:=first|omega|(simp;done)|(simp;omega)) [z9a,z1a,z0a,hQ3,z2N]
    refine z3a fun Q4 hQ4=> ?_
    refine z4d (fun j:Nat=>⟨[(0,i64 n)],[(4,.sl (.own 1) none D.length (bys D)),(6,.sl (.own 1) none (1+j) (bys (c::(D.map (flp n)).reverse.take j))),(7,i64 ((D.length:Int)-1-j))],[]⟩)
     (fun j=>D.length-j) (· ≤D.length) 0 (by simp) (by simp) fun j hj=> ?_
    refine z3a fun Q5 hQ5=> ?_
    simp(maxSteps:=1000000) (disch:=first|omega|(simp;done)|(simp;omega)) [z9a,z1a,z0a,z8O]
    rw[z7b]
    refine⟨by simp,fun h5=> ?_,fun h5=> ?_⟩<;>simp at h5
    ·have hj':j<D.length:=by omega
     have e1:((D.length:Int)-1-(j:Int)).toNat=D.length-1-j:=by omega
     simp(maxSteps:=1000000) (disch:=first|omega|(simp;done)|(simp;omega)) [z9a,z1a,z0a,z4O,e1,z7ya]
     refine⟨by omega,by omega,?_⟩
     refine z3a fun Q6 hQ6=> ?_
     have key3:∀d,d=flp n (at8 D (D.length-1-j))→Q6 .normal ⟨[(0,i64 n)],[(4,.sl (.own 1) none D.length (bys D)),(6,.sl (.own 1) none (1+j) (bys (c::(D.map (flp n)).reverse.take j))),(7,i64 ((D.length:Int)-1-j)),(8,u8 d)],[]⟩:=by
      intro d hd
      subst hd
      simp(maxSteps:=1000000) (disch:=first|omega|(simp;done)|(simp;omega)) [z9a,z1a,z0a,hQ6,hQ5,z0O]
      refine⟨by omega,j+1,by omega,by omega,⟨by omega,?_⟩,by omega⟩
      rw[z5Ab (by simpa using hj')]
      simp[at8,List.getD,List.getElem?_eq_getElem (show D.length-1-j<D.length by omega)]
     rw[z7b]
     refine⟨by simp,fun h7=> ?_,fun h7=> ?_⟩<;>simp at h7
     ·simp(maxSteps:=1000000) (disch:=first|omega|(simp;done)|(simp;omega)) [z9a,z1a,z0a]
      exact key3 _ (by rw[flp,if_pos h7])
     ·simp
      exact key3 _ (by rw[flp,if_neg (by omega)])
    ·have e:j=D.length:=by omega
     subst e
     simp[hQ5,hQ4,z4N,hfin,List.take_of_length_le]
     omega
   have hc8:(UInt8.ofNat (128+D.length)).toNat=128+D.length:=by rw[UInt8.toNat_ofNat'];omega
   rw[z7b]
   refine⟨by simp,fun h6=> ?_,fun h6=> ?_⟩<;>simp at h6
   ·simp(maxSteps:=1000000) (disch:=first|omega|(simp;done)|(simp;omega)) [z9a,z1a,z0a]
    refine key2 _ ?_
    rw[flp,if_neg (by omega)]
    apply UInt8.toNat_inj.1
    rw[hc8,UInt8.toNat_add,z6ma,z6ma]
    omega
   ·simp(maxSteps:=1000000) (disch:=first|omega|(simp;done)|(simp;omega)) [z9a,z1a,z0a]
    refine key2 _ ?_
    rw[flp,if_pos (by omega)]
    apply UInt8.toNat_inj.1
    rw[UInt8.toNat_sub,hc8,z6ma]
    have:(255:UInt8).toNat=255:=rfl
    omega
 have hmag:(mag n:Int)=if n<0 then-1-n else n:=by unfold mag;split<;>omega
 rw[z7b]
 refine⟨by simp,fun h=> ?_,fun h=> ?_⟩<;>simp at h
 ·simp(maxSteps:=1000000) (disch:=first|omega|(simp;done)|(simp;omega)) [z9a,z1a,z0a]
  rw[if_pos h] at hmag
  rw[hmag] at key
  exact key
 ·simp
  rw[if_neg (by omega)] at hmag
  rw[hmag] at key
  exact key
end Go.Abs
end
