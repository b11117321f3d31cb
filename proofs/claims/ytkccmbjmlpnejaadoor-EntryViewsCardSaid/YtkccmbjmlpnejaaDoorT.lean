/- Lemmas: an abstract interpreter, and what the functions compute. -/
import Derived.Test.YtkccmbjmlpnejaaDoorD
import Derived.Test.YtkccmbjmlpnejaaDoorC
set_option linter.unusedSimpArgs false
set_option linter.unusedVariables false
set_option linter.unusedSectionVars false
section
namespace Go.Abs
set_option maxRecDepth 100000
def z5ca:z4a:=
 .seq (
 .block 1 (
 .seq (
 .region [3,5,9,10,11] [] [
 ⟨some 13,none,.idxSl 1 (.s 9) (.s 11)⟩,
 ⟨some 14,none,.load none none false (.s 13)⟩,
 ⟨some 5,none,.mv false (.s 14)⟩]) (
 .region [3,9,10,11] [] [
 ⟨some 15,none,.mv true (.s 3)⟩,
 ⟨some 16,none,.mv false (.s 5)⟩,
 ⟨some 17,none,.call 12 [(.s 16)] []⟩,
 ⟨some 18,none,.append 1 1 false (some false) none 15 (.s 17)⟩,
 ⟨some 3,none,.mv true (.s 18)⟩]))) (
 .region [3,9,10,11] [] [
 ⟨some 19,none,.bin .add (.s 11) (.c (i64 1))⟩,
 ⟨some 11,none,.mv false (.s 19)⟩])
def z7ca:z4a:=
 .seq (
 .region [3,9,10,11,12] [] [
 ⟨some 12,none,.bin .lss (.s 11) (.s 10)⟩]) (
 .seq (
 .cond (.s 12) (
 .ghost (.keep [3,9,10,11]) .skip) (
 .ghost (.keep [3]) (.exit 0))) (
 z5ca))
def z6ca:z4a:=
 .seq (
 .region [2] [] [
 ⟨some 20,none,.mv true (.s 3)⟩,
 ⟨some 2,none,.mv true (.s 20)⟩]) (
 .ret)
def z9x:z2t:=
 {n:=1,wr:=[],res:=[.t 2],body:=
 .seq (
 .region [] [] [
 ⟨some 2,none,.mv true (.c (.sl (.own 1) none 0 []))⟩]) (
 .seq (
 .region [3] [] [
 ⟨some 6,none,.mv false (.s 0)⟩,
 ⟨some 7,none,.len false (.s 6)⟩,
 ⟨some 8,none,.call 12 [(.s 7)] []⟩,
 ⟨some 3,none,.mv true (.s 8)⟩]) (
 .seq (
 .seq (
 .region [3,9,10,11] [] [
 ⟨some 9,none,.mv false (.s 0)⟩,
 ⟨some 10,none,.len false (.s 9)⟩,
 ⟨some 11,none,.mv false (.c (i64 0))⟩]) (
 .block 0 (
 .loop z7ca))) (
 z6ca)))}

def z1J:z4a:=
 .seq (
 .block 1 (
 .region [3,4] [] [
 ⟨some 14,none,.mv true (.s 3)⟩,
 ⟨some 15,none,.mv false (.s 0)⟩,
 ⟨some 16,none,.mv false (.s 4)⟩,
 ⟨some 17,none,.idxSl 1 (.s 15) (.s 16)⟩,
 ⟨some 18,none,.load none none false (.s 17)⟩,
 ⟨some 19,none,.call 30 [(.s 18)] []⟩,
 ⟨some 20,none,.append 1 1 false none none 14 (.s 19)⟩,
 ⟨some 3,none,.mv true (.s 20)⟩])) (
 .region [3,4] [] [
 ⟨some 12,none,.mv false (.s 4)⟩,
 ⟨some 13,none,.bin .add (.s 12) (.c (i64 1))⟩,
 ⟨some 4,none,.mv false (.s 13)⟩])
def z0J:z4a:=
 .seq (
 .seq (
 .region [3,4,11] [] [
 ⟨some 8,none,.mv false (.s 4)⟩,
 ⟨some 9,none,.mv false (.s 0)⟩,
 ⟨some 10,none,.len false (.s 9)⟩,
 ⟨some 11,none,.bin .lss (.s 8) (.s 10)⟩]) (
 .cond (.s 11) (
 .ghost (.keep [3,4]) .skip) (
 .ghost (.keep [3]) (.exit 0)))) (
 z1J)
def z3J:z4a:=
 .seq (
 .region [2] [] [
 ⟨some 21,none,.mv true (.s 3)⟩,
 ⟨some 2,none,.mv true (.s 21)⟩]) (
 .ret)
def z4i:z2t:=
 {n:=1,wr:=[],res:=[.t 2],body:=
 .seq (
 .region [] [] [
 ⟨some 2,none,.mv true (.c (.sl (.own 1) none 0 []))⟩]) (
 .seq (
 .region [3] [] [
 ⟨some 5,none,.mv false (.s 0)⟩,
 ⟨some 6,none,.len false (.s 5)⟩,
 ⟨some 7,none,.call 30 [(.s 6)] []⟩,
 ⟨some 3,none,.mv true (.s 7)⟩]) (
 .seq (
 .seq (
 .region [3,4] [] [
 ⟨some 4,none,.mv false (.c (i64 0))⟩]) (
 .block 0 (
 .loop z0J))) (
 z3J)))}

def z26:z4a:=
 .seq (
 .block 2 (
 .seq (
 .region [5,6,7,9,46,47,48] [] [
 ⟨some 50,none,.idxSl 1 (.s 46) (.s 48)⟩,
 ⟨some 51,none,.load none none false (.s 50)⟩,
 ⟨some 9,none,.mv false (.s 51)⟩]) (
 .region [5,6,7,46,47,48] [] [
 ⟨some 52,none,.mv false (.s 7)⟩,
 ⟨some 53,none,.bin .shl (.s 52) (.c (u64 8))⟩,
 ⟨some 54,none,.mv false (.s 9)⟩,
 ⟨some 55,none,.mv false (.s 5)⟩,
 ⟨some 56,none,.bin .xor (.s 54) (.s 55)⟩,
 ⟨some 57,none,.toInt .u64 (.s 56)⟩,
 ⟨some 58,none,.bin .or (.s 53) (.s 57)⟩,
 ⟨some 7,none,.mv false (.s 58)⟩]))) (
 .region [5,6,7,46,47,48] [] [
 ⟨some 59,none,.bin .add (.s 48) (.c (i64 1))⟩,
 ⟨some 48,none,.mv false (.s 59)⟩])
def z15:z4a:=
 .seq (
 .region [5,6,7,46,47,48,49] [] [
 ⟨some 49,none,.bin .lss (.s 48) (.s 47)⟩]) (
 .seq (
 .cond (.s 49) (
 .ghost (.keep [5,6,7,46,47,48]) .skip) (
 .ghost (.keep [5,6,7]) (.exit 1))) (
 z26))
def z9P:z4a:=
 .seq (
 .region [2,3,4] [] [
 ⟨some 67,none,.mv false (.s 7)⟩,
 ⟨some 68,none,.toInt .i64 (.s 67)⟩,
 ⟨some 69,none,.mv false (.s 6)⟩,
 ⟨some 70,none,.bin .add (.s 69) (.c (i64 1))⟩,
 ⟨some 2,none,.mv false (.s 68)⟩,
 ⟨some 3,none,.mv false (.s 70)⟩,
 ⟨some 4,none,.mv false (.c (i64 0))⟩]) (
 .ret)
def z16:z4a:=
 .seq (
 .seq (
 .region [6,7,64] [] [
 ⟨some 63,none,.mv false (.s 5)⟩,
 ⟨some 64,none,.bin .gtr (.s 63) (.c (u8 0))⟩]) (
 .cond (.s 64) (
 .region [6,7] [] [
 ⟨some 65,none,.mv false (.s 7)⟩,
 ⟨some 66,none,.un .xor (.s 65)⟩,
 ⟨some 7,none,.mv false (.s 66)⟩]) (
 .ghost (.keep [6,7]) .skip))) (
 z9P)
def z25:z4a:=
 .seq (
 .seq (
 .region [5,6,7,62] [] [
 ⟨some 60,none,.mv false (.s 7)⟩,
 ⟨some 61,none,.bin .shr (.s 60) (.c (u64 63))⟩,
 ⟨some 62,none,.bin .gtr (.s 61) (.c (u64 0))⟩]) (
 .cond (.s 62) (
 .seq (
 .region [2,3,4] [] [
 ⟨some 2,none,.mv false (.c (i64 0))⟩,
 ⟨some 3,none,.mv false (.c (i64 0))⟩,
 ⟨some 4,none,.mv false (.c (i64 6))⟩]) (
 .ret)) (
 .ghost (.keep [5,6,7]) .skip))) (
 z16)
def z3P:z4a:=
 .seq (
 .region [5,6,7] [] [
 ⟨some 7,none,.mv false (.c (u64 0))⟩]) (
 .seq (
 .seq (
 .region [5,6,7,46,47,48] [] [
 ⟨some 43,none,.mv false (.s 0)⟩,
 ⟨some 44,none,.mv false (.s 6)⟩,
 ⟨some 45,none,.bin .add (.s 44) (.c (i64 1))⟩,
 ⟨some 46,none,.slSl 1 (.s 43) (some (.c (i64 1))) (some (.s 45)) none⟩,
 ⟨some 47,none,.len false (.s 46)⟩,
 ⟨some 48,none,.mv false (.c (i64 0))⟩]) (
 .block 1 (
 .loop z15))) (
 z25))
def z84:z4a:=
 .seq (
 .region [5,6] [] [
 ⟨some 17,none,.mv false (.s 0)⟩,
 ⟨some 18,none,.idxSl 1 (.s 17) (.c (i64 0))⟩,
 ⟨some 19,none,.load none none false (.s 18)⟩,
 ⟨some 20,none,.mv false (.s 5)⟩,
 ⟨some 21,none,.bin .xor (.s 19) (.s 20)⟩,
 ⟨some 22,none,.toInt .i64 (.s 21)⟩,
 ⟨some 23,none,.bin .sub (.s 22) (.c (i64 128))⟩,
 ⟨some 6,none,.mv false (.s 23)⟩]) (
 .seq (
 .block 0 (
 .seq (
 .region [5,6,24] [] [
 ⟨some 25,none,.mv false (.s 6)⟩,
 ⟨some 26,none,.bin .gtr (.s 25) (.c (i64 8))⟩,
 ⟨some 24,none,.mv false (.s 26)⟩]) (
 .cond (.s 24) (
 .seq (
 .region [2,3,4] [] [
 ⟨some 2,none,.mv false (.c (i64 0))⟩,
 ⟨some 3,none,.mv false (.c (i64 0))⟩,
 ⟨some 4,none,.mv false (.c (i64 6))⟩]) (
 .ret)) (
 .seq (
 .region [5,6,27] [] [
 ⟨some 28,none,.mv false (.s 0)⟩,
 ⟨some 29,none,.len false (.s 28)⟩,
 ⟨some 30,none,.mv false (.s 6)⟩,
 ⟨some 31,none,.bin .leq (.s 29) (.s 30)⟩,
 ⟨some 27,none,.mv false (.s 31)⟩]) (
 .cond (.s 27) (
 .seq (
 .region [2,3,4] [] [
 ⟨some 2,none,.mv false (.c (i64 0))⟩,
 ⟨some 3,none,.mv false (.c (i64 0))⟩,
 ⟨some 4,none,.mv false (.c (i64 5))⟩]) (
 .ret)) (
 .seq (
 .region [5,6,32] [] [
 ⟨some 33,none,.mv false (.s 6)⟩,
 ⟨some 34,none,.bin .gtr (.s 33) (.c (i64 0))⟩,
 ⟨some 35,none,.mv false (.s 34)⟩,
 ⟨some 36,(some (35,true)),.mv false (.s 0)⟩,
 ⟨some 37,(some (35,true)),.idxSl 1 (.s 36) (.c (i64 1))⟩,
 ⟨some 38,(some (35,true)),.load none none false (.s 37)⟩,
 ⟨some 39,(some (35,true)),.mv false (.s 5)⟩,
 ⟨some 40,(some (35,true)),.bin .xor (.s 38) (.s 39)⟩,
 ⟨some 41,(some (35,true)),.bin .eql (.s 40) (.c (u8 0))⟩,
 ⟨some 42,none,.pick (.s 35) (.s 41) (.c (bo false))⟩,
 ⟨some 32,none,.mv false (.s 42)⟩]) (
 .cond (.s 32) (
 .seq (
 .region [2,3,4] [] [
 ⟨some 2,none,.mv false (.c (i64 0))⟩,
 ⟨some 3,none,.mv false (.c (i64 0))⟩,
 ⟨some 4,none,.mv false (.c (i64 6))⟩]) (
 .ret)) (
 .ghost (.keep [5,6]) .skip)))))))) (
 z3P))
def z94:z4a:=
 .seq (
 .region [5] [] [
 ⟨some 5,none,.mv false (.c (u8 0))⟩]) (
 .seq (
 .seq (
 .region [5,16] [] [
 ⟨some 13,none,.mv false (.s 0)⟩,
 ⟨some 14,none,.idxSl 1 (.s 13) (.c (i64 0))⟩,
 ⟨some 15,none,.load none none false (.s 14)⟩,
 ⟨some 16,none,.bin .lss (.s 15) (.c (u8 128))⟩]) (
 .cond (.s 16) (
 .region [5] [] [
 ⟨some 5,none,.mv false (.c (u8 255))⟩]) (
 .ghost (.keep [5]) .skip))) (
 z84))
def z0o:z2t:=
 {n:=1,wr:=[],res:=[.t 2,.t 3,.t 4],body:=
 .seq (
 .region [] [] [
 ⟨some 2,none,.mv false (.c (i64 0))⟩,
 ⟨some 3,none,.mv false (.c (i64 0))⟩,
 ⟨some 4,none,.mv false (.c (i64 0))⟩]) (
 .seq (
 .seq (
 .region [12] [] [
 ⟨some 10,none,.mv false (.s 0)⟩,
 ⟨some 11,none,.len false (.s 10)⟩,
 ⟨some 12,none,.bin .eql (.s 11) (.c (i64 0))⟩]) (
 .cond (.s 12) (
 .seq (
 .region [2,3,4] [] [
 ⟨some 2,none,.mv false (.c (i64 0))⟩,
 ⟨some 3,none,.mv false (.c (i64 0))⟩,
 ⟨some 4,none,.mv false (.c (i64 5))⟩]) (
 .ret)) (
 .ghost (.keep []) .skip))) (
 z94))}

def z3V:z4a:=
 .seq (
 .region [2,3,4] [] [
 ⟨some 17,none,.mv false (.s 0)⟩,
 ⟨some 18,none,.mv false (.s 6)⟩,
 ⟨some 19,none,.mv false (.s 6)⟩,
 ⟨some 20,none,.mv false (.s 5)⟩,
 ⟨some 21,none,.bin .add (.s 19) (.s 20)⟩,
 ⟨some 22,none,.slSl 1 (.s 17) (some (.s 18)) (some (.s 21)) none⟩,
 ⟨some 23,none,.toStr none (.s 22)⟩,
 ⟨some 24,none,.mv false (.s 6)⟩,
 ⟨some 25,none,.mv false (.s 5)⟩,
 ⟨some 26,none,.bin .add (.s 24) (.s 25)⟩,
 ⟨some 2,none,.mv false (.s 23)⟩,
 ⟨some 3,none,.mv false (.s 26)⟩,
 ⟨some 4,none,.mv false (.c (i64 0))⟩]) (
 .ret)
def z3j:z2t:=
 {n:=1,wr:=[],res:=[.t 2,.t 3,.t 4],body:=
 .seq (
 .region [] [] [
 ⟨some 2,none,.mv false (.c (st []))⟩,
 ⟨some 3,none,.mv false (.c (i64 0))⟩,
 ⟨some 4,none,.mv false (.c (i64 0))⟩]) (
 .seq (
 .region [5,6,7] [] [
 ⟨some 9,none,.mv false (.s 0)⟩,
 ⟨some 10,none,.call 47 [(.s 9),(.c (i64 1))] []⟩,
 ⟨some 8,none,.mv false (.s 10)⟩,
 ⟨some 11,none,.extract 0 (.s 8)⟩,
 ⟨some 12,none,.extract 1 (.s 8)⟩,
 ⟨some 13,none,.extract 2 (.s 8)⟩,
 ⟨some 5,none,.mv false (.s 11)⟩,
 ⟨some 6,none,.mv false (.s 12)⟩,
 ⟨some 7,none,.mv false (.s 13)⟩]) (
 .seq (
 .seq (
 .region [5,6,7,15] [] [
 ⟨some 14,none,.mv false (.s 7)⟩,
 ⟨some 15,none,.bin .neq (.s 14) (.c (i64 0))⟩]) (
 .cond (.s 15) (
 .seq (
 .region [2,3,4] [] [
 ⟨some 16,none,.mv false (.s 7)⟩,
 ⟨some 2,none,.mv false (.c (st []))⟩,
 ⟨some 3,none,.mv false (.c (i64 0))⟩,
 ⟨some 4,none,.mv false (.s 16)⟩]) (
 .ret)) (
 .ghost (.keep [5,6]) .skip))) (
 z3V)))}

def z51:z4a:=
 .region [6,8,9,25,26] [] [
 ⟨some 37,none,.mv true (.s 9)⟩,
 ⟨some 38,none,.mv false (.s 10)⟩,
 ⟨some 39,none,.buildSl 1 1 [i64 0] [(0,1,(.s 38))]⟩,
 ⟨some 40,none,.append 1 8 false none none 37 (.s 39)⟩,
 ⟨some 41,none,.mv false (.s 11)⟩,
 ⟨some 9,none,.mv true (.s 40)⟩,
 ⟨some 6,none,.mv false (.s 41)⟩]
def z82:z4a:=
 .seq (
 .block 1 (
 .seq (
 .region [8,9,10,11,12,25,26] [.norm [24,1024]] [
 ⟨some 29,none,.mv false (.s 8)⟩,
 ⟨some 30,none,.callm 61 (some (.s 29)) [] [(0,24),(1,1024)] []⟩,
 ⟨some 28,none,.mv false (.s 30)⟩,
 ⟨some 31,none,.extract 0 (.s 28)⟩,
 ⟨some 32,none,.extract 1 (.s 28)⟩,
 ⟨some 33,none,.extract 2 (.s 28)⟩,
 ⟨some 10,none,.mv false (.s 31)⟩,
 ⟨some 11,none,.mv false (.s 32)⟩,
 ⟨some 12,none,.mv false (.s 33)⟩]) (
 .seq (
 .seq (
 .region [8,9,10,11,12,25,26,35] [] [
 ⟨some 34,none,.mv false (.s 12)⟩,
 ⟨some 35,none,.bin .neq (.s 34) (.c (i64 0))⟩]) (
 .cond (.s 35) (
 .seq (
 .region [2,3,4] [] [
 ⟨some 36,none,.mv false (.s 12)⟩,
 ⟨some 2,none,.mv true (.c (.sl (.own 1) none 0 []))⟩,
 ⟨some 3,none,.mv false (.c (i64 0))⟩,
 ⟨some 4,none,.mv false (.s 36)⟩]) (
 .ret)) (
 .ghost (.keep [8,9,10,11,25,26]) .skip))) (
 z51)))) (
 .region [6,8,9,25,26] [] [
 ⟨some 42,none,.bin .add (.s 26) (.c (i64 1))⟩,
 ⟨some 26,none,.mv false (.s 42)⟩])
def z42:z4a:=
 .seq (
 .region [6,8,9,25,26,27] [] [
 ⟨some 27,none,.bin .lss (.s 26) (.s 25)⟩]) (
 .seq (
 .cond (.s 27) (
 .ghost (.keep [8,9,25,26]) .skip) (
 .ghost (.keep [6,9]) (.exit 0))) (
 z82))
def z8Z:z4a:=
 .seq (
 .region [2,3,4] [] [
 ⟨some 43,none,.mv true (.s 9)⟩,
 ⟨some 44,none,.mv false (.s 6)⟩,
 ⟨some 2,none,.mv true (.s 43)⟩,
 ⟨some 3,none,.mv false (.s 44)⟩,
 ⟨some 4,none,.mv false (.c (i64 0))⟩]) (
 .ret)
def z12:z4a:=
 .seq (
 .region [5,6,8] [.norm [24,1024]] [
 ⟨some 22,none,.mv false (.s 0)⟩,
 ⟨some 23,none,.mv false (.s 6)⟩,
 ⟨some 24,none,.callm 51 none [(.s 22),(.s 23)] [] [(2,24),(3,1024)]⟩,
 ⟨some 8,none,.mv false (.s 24)⟩]) (
 .seq (
 .region [5,6,8,9] [] [
 ⟨some 9,none,.mv true (.c (.sl (.own 1) none 0 []))⟩]) (
 .seq (
 .seq (
 .region [6,8,9,25,26] [] [
 ⟨some 25,none,.mv false (.s 5)⟩,
 ⟨some 26,none,.mv false (.c (i64 0))⟩]) (
 .block 0 (
 .loop z42))) (
 z8Z)))
def z5k:z2t:=
 {n:=1,wr:=[],res:=[.t 2,.t 3,.t 4],body:=
 .seq (
 .region [] [] [
 ⟨some 2,none,.mv true (.c (.sl (.own 1) none 0 []))⟩,
 ⟨some 3,none,.mv false (.c (i64 0))⟩,
 ⟨some 4,none,.mv false (.c (i64 0))⟩]) (
 .seq (
 .region [5,6,7] [] [
 ⟨some 14,none,.mv false (.s 0)⟩,
 ⟨some 15,none,.call 47 [(.s 14),(.c (i64 1))] []⟩,
 ⟨some 13,none,.mv false (.s 15)⟩,
 ⟨some 16,none,.extract 0 (.s 13)⟩,
 ⟨some 17,none,.extract 1 (.s 13)⟩,
 ⟨some 18,none,.extract 2 (.s 13)⟩,
 ⟨some 5,none,.mv false (.s 16)⟩,
 ⟨some 6,none,.mv false (.s 17)⟩,
 ⟨some 7,none,.mv false (.s 18)⟩]) (
 .seq (
 .seq (
 .region [5,6,7,20] [] [
 ⟨some 19,none,.mv false (.s 7)⟩,
 ⟨some 20,none,.bin .neq (.s 19) (.c (i64 0))⟩]) (
 .cond (.s 20) (
 .seq (
 .region [2,3,4] [] [
 ⟨some 21,none,.mv false (.s 7)⟩,
 ⟨some 2,none,.mv true (.c (.sl (.own 1) none 0 []))⟩,
 ⟨some 3,none,.mv false (.c (i64 0))⟩,
 ⟨some 4,none,.mv false (.s 21)⟩]) (
 .ret)) (
 .ghost (.keep [5,6]) .skip))) (
 z12)))}

def z5r:z4a:=
 .seq (
 .region [4,5,6] [] [
 ⟨some 28,none,.mv false (.s 4)⟩,
 ⟨some 29,none,.mv false (.s 5)⟩,
 ⟨some 30,none,.mv false (.s 6)⟩,
 ⟨some 4,none,.mv false (.s 28)⟩,
 ⟨some 5,none,.mv false (.s 29)⟩,
 ⟨some 6,none,.mv false (.s 30)⟩]) (
 .ret)
def z1o:z2t:=
 {n:=2,wr:=[],res:=[.t 4,.t 5,.t 6],body:=
 .seq (
 .region [] [] [
 ⟨some 4,none,.mv false (.c (i64 0))⟩,
 ⟨some 5,none,.mv false (.c (i64 0))⟩,
 ⟨some 6,none,.mv false (.c (i64 0))⟩]) (
 .seq (
 .region [4,5,6] [] [
 ⟨some 8,none,.mv false (.s 0)⟩,
 ⟨some 9,none,.call 45 [(.s 8)] []⟩,
 ⟨some 7,none,.mv false (.s 9)⟩,
 ⟨some 10,none,.extract 0 (.s 7)⟩,
 ⟨some 11,none,.extract 1 (.s 7)⟩,
 ⟨some 12,none,.extract 2 (.s 7)⟩,
 ⟨some 4,none,.mv false (.s 10)⟩,
 ⟨some 5,none,.mv false (.s 11)⟩,
 ⟨some 6,none,.mv false (.s 12)⟩]) (
 .seq (
 .block 0 (
 .seq (
 .region [4,5,6,13] [] [
 ⟨some 14,none,.mv false (.s 6)⟩,
 ⟨some 15,none,.bin .neq (.s 14) (.c (i64 0))⟩,
 ⟨some 13,none,.mv false (.s 15)⟩]) (
 .cond (.s 13) (
 .ghost (.keep [4,5,6]) .skip) (
 .seq (
 .region [4,5,6,16] [] [
 ⟨some 17,none,.mv false (.s 4)⟩,
 ⟨some 18,none,.bin .lss (.s 17) (.c (i64 0))⟩,
 ⟨some 16,none,.mv false (.s 18)⟩]) (
 .cond (.s 16) (
 .region [4,5,6] [] [
 ⟨some 6,none,.mv false (.c (i64 6))⟩]) (
 .seq (
 .region [4,5,6,19] [] [
 ⟨some 20,none,.mv false (.s 4)⟩,
 ⟨some 21,none,.mv false (.s 0)⟩,
 ⟨some 22,none,.len false (.s 21)⟩,
 ⟨some 23,none,.mv false (.s 5)⟩,
 ⟨some 24,none,.bin .sub (.s 22) (.s 23)⟩,
 ⟨some 25,none,.mv false (.s 1)⟩,
 ⟨some 26,none,.bin .quo (.s 24) (.s 25)⟩,
 ⟨some 27,none,.bin .gtr (.s 20) (.s 26)⟩,
 ⟨some 19,none,.mv false (.s 27)⟩]) (
 .cond (.s 19) (
 .region [4,5,6] [] [
 ⟨some 6,none,.mv false (.c (i64 5))⟩]) (
 .ghost (.keep [4,5,6]) .skip)))))))) (
 z5r)))}

def z9s:z2t:=
 {n:=2,wr:=[],res:=[.t 4],body:=
 .seq (
 .region [2,3] [.norm [2,3]] [
 ⟨some 2,none,.box 2 none true (.s 0)⟩,
 ⟨some 3,none,.box 3 none false (.s 1)⟩,
 ⟨some 4,none,.mv false (.c (.lit .nilFunc))⟩]) (
 .seq (
 .region [4] [] [
 ⟨some 5,none,.mkfn 61 [] [(.s 2),(.s 3)]⟩,
 ⟨some 4,none,.mv false (.s 5)⟩]) (
 .ret))}

def z4p:z2t:=
 {n:=2,wr:=[],res:=[.t 2,.t 3,.t 4],body:=
 .seq (
 .region [0,1] [] [
 ⟨some 2,none,.mv false (.c (i64 0))⟩,
 ⟨some 3,none,.mv false (.c (i64 0))⟩,
 ⟨some 4,none,.mv false (.c (i64 0))⟩]) (
 .seq (
 .region [0,1,5,6,7] [.norm [0,1]] [
 ⟨some 9,none,.load none (some 0) false (.s 0)⟩,
 ⟨some 10,none,.load none (some 1) false (.s 1)⟩,
 ⟨some 11,none,.slSl 1 (.s 9) (some (.s 10)) none none⟩,
 ⟨some 12,none,.call 45 [(.s 11)] []⟩,
 ⟨some 8,none,.mv false (.s 12)⟩,
 ⟨some 13,none,.extract 0 (.s 8)⟩,
 ⟨some 14,none,.extract 1 (.s 8)⟩,
 ⟨some 15,none,.extract 2 (.s 8)⟩,
 ⟨some 5,none,.mv false (.s 13)⟩,
 ⟨some 6,none,.mv false (.s 14)⟩,
 ⟨some 7,none,.mv false (.s 15)⟩]) (
 .seq (
 .region [0,1,5,7] [.norm [0,1]] [
 ⟨some 16,none,.load none (some 1) false (.s 1)⟩,
 ⟨some 17,none,.mv false (.s 6)⟩,
 ⟨some 18,none,.bin .add (.s 16) (.s 17)⟩,
 ⟨none,none,.store none 1 false (.s 1) (.s 18)⟩]) (
 .seq (
 .region [0,1,2,3,4] [.norm [0,1]] [
 ⟨some 19,none,.mv false (.s 5)⟩,
 ⟨some 20,none,.load none (some 1) false (.s 1)⟩,
 ⟨some 21,none,.mv false (.s 7)⟩,
 ⟨some 2,none,.mv false (.s 19)⟩,
 ⟨some 3,none,.mv false (.s 20)⟩,
 ⟨some 4,none,.mv false (.s 21)⟩]) (
 .ret))))}

end Go.Abs
end

section
namespace Go.Abs
set_option maxRecDepth 100000
def z4T:z4a:=
 .region [1,3,18,19] [] [
 ⟨some 22,none,.mv true (.s 3)⟩,
 ⟨some 23,none,.mv false (.s 5)⟩,
 ⟨some 24,none,.call 12 [(.s 23)] []⟩,
 ⟨some 25,none,.append 1 1 false none none 22 (.s 24)⟩,
 ⟨some 3,none,.mv true (.s 25)⟩]
def z5S:z4a:=
 .seq (
 .block 1 (
 .seq (
 .region [1,3,5,18,19] [] [
 ⟨some 21,none,.idxA none 1 6 (.s 18) (.s 19)⟩,
 ⟨some 5,none,.mv false (.s 21)⟩]) (
 z4T))) (
 .region [1,3,18,19] [] [
 ⟨some 26,none,.bin .add (.s 19) (.c (i64 1))⟩,
 ⟨some 19,none,.mv false (.s 26)⟩])
def z4D:z4a:=
 .seq (
 .cond (.s 20) (
 .ghost (.keep [1,3,18,19]) .skip) (
 .ghost (.keep [1,3]) (.exit 0))) (
 z5S)
def z0D:z4a:=
 .seq (
 .region [1,3,18,19,20] [] [
 ⟨some 20,none,.bin .lss (.s 19) (.c (i64 6))⟩]) (
 z4D)
def z7S:z4a:=
 .block 0 (
 .loop z0D)
def z9S:z4a:=
 .seq (
 .region [2] [.norm [1]] [
 ⟨some 27,none,.mv true (.s 3)⟩,
 ⟨some 28,none,.fieldAddr 6 (.s 1)⟩,
 ⟨some 29,none,.load none (some 1) false (.s 28)⟩,
 ⟨some 30,none,.call 7 [(.s 29)] []⟩,
 ⟨some 31,none,.fieldAddr 7 (.s 1)⟩,
 ⟨some 32,none,.load none (some 1) false (.s 31)⟩,
 ⟨some 33,none,.call 39 [(.s 32)] []⟩,
 ⟨some 34,none,.buildSl 1 3 [.sl .plain none 0 [],.sl .plain none 0 [],.sl .plain none 0 []] [(0,1,(.s 27)),(1,1,(.s 30)),(2,1,(.s 33))]⟩,
 ⟨some 35,none,.call 129 [(.s 34)] []⟩,
 ⟨some 2,none,.mv true (.s 35)⟩]) (
 .ret)
def z9R:z4a:=
 .seq (
 .seq (
 .region [1,3,18,19] [.norm [1]] [
 ⟨some 6,none,.fieldAddr 0 (.s 1)⟩,
 ⟨some 7,none,.load none (some 1) false (.s 6)⟩,
 ⟨some 8,none,.fieldAddr 1 (.s 1)⟩,
 ⟨some 9,none,.load none (some 1) false (.s 8)⟩,
 ⟨some 10,none,.fieldAddr 2 (.s 1)⟩,
 ⟨some 11,none,.load none (some 1) false (.s 10)⟩,
 ⟨some 12,none,.fieldAddr 3 (.s 1)⟩,
 ⟨some 13,none,.load none (some 1) false (.s 12)⟩,
 ⟨some 14,none,.fieldAddr 4 (.s 1)⟩,
 ⟨some 15,none,.load none (some 1) false (.s 14)⟩,
 ⟨some 16,none,.fieldAddr 5 (.s 1)⟩,
 ⟨some 17,none,.load none (some 1) false (.s 16)⟩,
 ⟨some 18,none,.build [i64 0,i64 0,i64 0,i64 0,i64 0,i64 0] [(0,1,(.s 7)),(1,1,(.s 9)),(2,1,(.s 11)),(3,1,(.s 13)),(4,1,(.s 15)),(5,1,(.s 17))]⟩,
 ⟨some 19,none,.mv false (.c (i64 0))⟩]) (
 z7S)) (
 z9S)
def z1S:z4a:=
 .seq (
 .region [1,3] [] [
 ⟨some 3,none,.mv true (.c (.sl (.own 1) none 0 []))⟩]) (
 z9R)
def z1l:z2t:=
 {n:=1,wr:=[],res:=[.t 2],body:=
 .seq (
 .region [1] [.norm [1]] [
 ⟨some 1,none,.box 1 (some 8) false (.s 0)⟩,
 ⟨some 2,none,.mv true (.c (.sl (.own 1) none 0 []))⟩]) (
 z1S)}

def z1T:z4a:=
 .seq (
 .region [2] [.norm [1,2]] [
 ⟨some 3,none,.load (some 8) (some 1) false (.s 1)⟩,
 ⟨some 4,none,.call 130 [(.s 3)] []⟩,
 ⟨some 5,none,.toStr none (.s 4)⟩,
 ⟨some 6,none,.buildSl 1 1 [st []] [(0,1,(.s 5))]⟩,
 ⟨some 7,none,.call 8 [(.c (i64 7)),(.s 6)] []⟩,
 ⟨none,none,.store (some 16) 2 false (.s 2) (.s 7)⟩]) (
 .ret)
def z0l:z2t:=
 {n:=1,wr:=[],res:=[.cell 2 (some 16) 2],body:=
 .seq (
 .region [1,2] [.norm [1,2]] [
 ⟨some 1,none,.box 1 (some 8) false (.s 0)⟩,
 ⟨some 2,none,.alloc 2 (bys (z4c 16))⟩]) (
 z1T)}

def z6i:z4a:=
 .seq (
 .region [4] [.norm [2,3]] [
 ⟨some 11,none,.fieldAddr 0 (.s 2)⟩,
 ⟨some 12,none,.load none (some 2) false (.s 11)⟩,
 ⟨some 13,none,.fieldAddr 0 (.s 3)⟩,
 ⟨some 14,none,.load none (some 3) false (.s 13)⟩,
 ⟨some 15,none,.bin .eql (.s 12) (.s 14)⟩,
 ⟨some 16,none,.mv false (.s 15)⟩,
 ⟨some 17,(some (16,true)),.fieldAddr 1 (.s 2)⟩,
 ⟨some 18,(some (16,true)),.load none (some 2) false (.s 17)⟩,
 ⟨some 19,(some (16,true)),.fieldAddr 1 (.s 3)⟩,
 ⟨some 20,(some (16,true)),.load none (some 3) false (.s 19)⟩,
 ⟨some 21,(some (16,true)),.bin .eql (.s 18) (.s 20)⟩,
 ⟨some 22,none,.pick (.s 16) (.s 21) (.c (bo false))⟩,
 ⟨some 23,none,.mv false (.s 22)⟩,
 ⟨some 24,(some (23,true)),.fieldAddr 2 (.s 2)⟩,
 ⟨some 25,(some (23,true)),.load none (some 2) false (.s 24)⟩,
 ⟨some 26,(some (23,true)),.fieldAddr 2 (.s 3)⟩,
 ⟨some 27,(some (23,true)),.load none (some 3) false (.s 26)⟩,
 ⟨some 28,(some (23,true)),.bin .eql (.s 25) (.s 27)⟩,
 ⟨some 29,none,.pick (.s 23) (.s 28) (.c (bo false))⟩,
 ⟨some 30,none,.mv false (.s 29)⟩,
 ⟨some 31,(some (30,true)),.fieldAddr 3 (.s 2)⟩,
 ⟨some 32,(some (30,true)),.load none (some 2) false (.s 31)⟩,
 ⟨some 33,(some (30,true)),.fieldAddr 3 (.s 3)⟩,
 ⟨some 34,(some (30,true)),.load none (some 3) false (.s 33)⟩,
 ⟨some 35,(some (30,true)),.bin .eql (.s 32) (.s 34)⟩,
 ⟨some 36,none,.pick (.s 30) (.s 35) (.c (bo false))⟩,
 ⟨some 37,none,.mv false (.s 36)⟩,
 ⟨some 38,(some (37,true)),.fieldAddr 4 (.s 2)⟩,
 ⟨some 39,(some (37,true)),.load none (some 2) false (.s 38)⟩,
 ⟨some 40,(some (37,true)),.fieldAddr 4 (.s 3)⟩,
 ⟨some 41,(some (37,true)),.load none (some 3) false (.s 40)⟩,
 ⟨some 42,(some (37,true)),.bin .eql (.s 39) (.s 41)⟩,
 ⟨some 43,none,.pick (.s 37) (.s 42) (.c (bo false))⟩,
 ⟨some 44,none,.mv false (.s 43)⟩,
 ⟨some 45,(some (44,true)),.fieldAddr 5 (.s 2)⟩,
 ⟨some 46,(some (44,true)),.load none (some 2) false (.s 45)⟩,
 ⟨some 47,(some (44,true)),.fieldAddr 5 (.s 3)⟩,
 ⟨some 48,(some (44,true)),.load none (some 3) false (.s 47)⟩,
 ⟨some 49,(some (44,true)),.bin .eql (.s 46) (.s 48)⟩,
 ⟨some 50,none,.pick (.s 44) (.s 49) (.c (bo false))⟩,
 ⟨some 51,none,.mv false (.s 50)⟩,
 ⟨some 52,(some (51,true)),.fieldAddr 6 (.s 2)⟩,
 ⟨some 53,(some (51,true)),.load none (some 2) false (.s 52)⟩,
 ⟨some 54,(some (51,true)),.fieldAddr 6 (.s 3)⟩,
 ⟨some 55,(some (51,true)),.load none (some 3) false (.s 54)⟩,
 ⟨some 56,(some (51,true)),.bin .eql (.s 53) (.s 55)⟩,
 ⟨some 57,none,.pick (.s 51) (.s 56) (.c (bo false))⟩,
 ⟨some 58,none,.mv false (.s 57)⟩,
 ⟨some 59,(some (58,true)),.mv false (.s 5)⟩,
 ⟨some 60,(some (58,true)),.mv false (.s 6)⟩,
 ⟨some 61,(some (58,true)),.call 132 [(.s 59),(.s 60)] []⟩,
 ⟨some 62,none,.pick (.s 58) (.s 61) (.c (bo false))⟩,
 ⟨some 4,none,.mv false (.s 62)⟩]) (
 .ret)
def z72:z4a:=
 .seq (
 .region [2,3,5,6] [.norm [2,3]] [
 ⟨some 7,none,.fieldAddr 7 (.s 2)⟩,
 ⟨some 8,none,.load none (some 2) false (.s 7)⟩,
 ⟨some 9,none,.fieldAddr 7 (.s 3)⟩,
 ⟨some 10,none,.load none (some 3) false (.s 9)⟩,
 ⟨some 5,none,.mv true (.s 8)⟩,
 ⟨some 6,none,.mv true (.s 10)⟩]) (
 z6i)
def z3o:z2t:=
 {n:=2,wr:=[],res:=[.t 4],body:=
 .seq (
 .region [2,3] [.norm [2,3]] [
 ⟨some 2,none,.box 2 (some 8) false (.s 0)⟩,
 ⟨some 3,none,.box 3 (some 8) false (.s 1)⟩,
 ⟨some 4,none,.mv false (.c (bo false))⟩]) (
 z72)}

def z2X:z4a:=
 .cond (.s 20) (
 .region [3,9,10,11] [] [
 ⟨some 21,none,.unsup⟩,
 ⟨none,none,.unsup⟩]) (
 .ghost (.keep [3,9,10,11]) .skip)
def z1V:z4a:=
 .seq (
 .region [3,9,10,11,20] [] [
 ⟨some 19,none,.mv false (.s 3)⟩,
 ⟨some 20,none,.bin .lss (.s 19) (.c (i64 0))⟩]) (
 z2X)
def z7W:z4a:=
 .seq (
 .region [3,9,10,11] [] [
 ⟨some 15,none,.mv false (.s 3)⟩,
 ⟨some 16,none,.mv true (.s 5)⟩,
 ⟨some 17,none,.len false (.s 16)⟩,
 ⟨some 18,none,.bin .add (.s 15) (.s 17)⟩,
 ⟨some 3,none,.mv false (.s 18)⟩]) (
 z1V)
def z2V:z4a:=
 .seq (
 .block 1 (
 .seq (
 .region [3,5,9,10,11] [] [
 ⟨some 13,none,.idxSl 1 (.s 9) (.s 11)⟩,
 ⟨some 14,none,.load none none false (.s 13)⟩,
 ⟨some 5,none,.mv true (.s 14)⟩]) (
 z7W))) (
 .region [3,9,10,11] [] [
 ⟨some 22,none,.bin .add (.s 11) (.c (i64 1))⟩,
 ⟨some 11,none,.mv false (.s 22)⟩])
def z6I:z4a:=
 .seq (
 .cond (.s 12) (
 .ghost (.keep [3,9,10,11]) .skip) (
 .ghost (.keep [3]) (.exit 0))) (
 z2V)
def z9H:z4a:=
 .seq (
 .region [3,9,10,11,12] [] [
 ⟨some 12,none,.bin .lss (.s 11) (.s 10)⟩]) (
 z6I)
def z4W:z4a:=
 .block 0 (
 .loop z9H)
def z2S:z4a:=
 .region [6,25,26,27] [] [
 ⟨some 31,none,.mv true (.s 6)⟩,
 ⟨some 32,none,.mv true (.s 8)⟩,
 ⟨some 33,none,.append 1 1 false none none 31 (.s 32)⟩,
 ⟨some 6,none,.mv true (.s 33)⟩]
def z4S:z4a:=
 .seq (
 .block 3 (
 .seq (
 .region [6,8,25,26,27] [] [
 ⟨some 29,none,.idxSl 1 (.s 25) (.s 27)⟩,
 ⟨some 30,none,.load none none false (.s 29)⟩,
 ⟨some 8,none,.mv true (.s 30)⟩]) (
 z2S))) (
 .region [6,25,26,27] [] [
 ⟨some 34,none,.bin .add (.s 27) (.c (i64 1))⟩,
 ⟨some 27,none,.mv false (.s 34)⟩])
def z9C:z4a:=
 .seq (
 .cond (.s 28) (
 .ghost (.keep [6,25,26,27]) .skip) (
 .ghost (.keep [6]) (.exit 2))) (
 z4S)
def z3H:z4a:=
 .seq (
 .region [6,25,26,27,28] [] [
 ⟨some 28,none,.bin .lss (.s 27) (.s 26)⟩]) (
 z9C)
def z6S:z4a:=
 .block 2 (
 .loop z3H)
def z0U:z4a:=
 .seq (
 .region [2] [] [
 ⟨some 35,none,.mv true (.s 6)⟩,
 ⟨some 2,none,.mv true (.s 35)⟩]) (
 .ret)
def z7U:z4a:=
 .seq (
 .seq (
 .region [6,25,26,27] [] [
 ⟨some 25,none,.mv false (.s 0)⟩,
 ⟨some 26,none,.len false (.s 25)⟩,
 ⟨some 27,none,.mv false (.c (i64 0))⟩]) (
 z6S)) (
 z0U)
def z6W:z4a:=
 .seq (
 .region [6] [] [
 ⟨some 23,none,.mv false (.s 3)⟩,
 ⟨some 24,none,.call 139 [(.c (.lit (.slice none 0 0))),(.s 23)] []⟩,
 ⟨some 6,none,.mv true (.s 24)⟩]) (
 z7U)
def z9U:z4a:=
 .seq (
 .seq (
 .region [3,9,10,11] [] [
 ⟨some 9,none,.mv false (.s 0)⟩,
 ⟨some 10,none,.len false (.s 9)⟩,
 ⟨some 11,none,.mv false (.c (i64 0))⟩]) (
 z4W)) (
 z6W)
def z0W:z4a:=
 .seq (
 .region [3] [] [
 ⟨some 3,none,.mv false (.c (i64 0))⟩]) (
 z9U)
def z4m:z2t:=
 {n:=1,wr:=[],res:=[.t 2],body:=
 .seq (
 .region [] [] [
 ⟨some 2,none,.mv true (.c (.sl (.own 1) none 0 []))⟩]) (
 z0W)}

def z0K:z4a:=
 .cond (.s 10) (
 .seq (
 .region [4] [] [
 ⟨some 4,none,.mv false (.c (bo false))⟩]) (
 .ret)) (
 .ghost (.keep []) .skip)
def z2K:z4a:=
 .cond (.s 24) (
 .seq (
 .region [4] [] [
 ⟨some 4,none,.mv false (.c (bo false))⟩]) (
 .ret)) (
 .ghost (.keep [12,13]) .skip)
def z6K:z4a:=
 .seq (
 .region [12,13,24] [] [
 ⟨some 16,none,.mv false (.s 0)⟩,
 ⟨some 17,none,.mv false (.s 5)⟩,
 ⟨some 18,none,.idxSl 1 (.s 16) (.s 17)⟩,
 ⟨some 19,none,.load none none false (.s 18)⟩,
 ⟨some 20,none,.mv false (.s 1)⟩,
 ⟨some 21,none,.mv false (.s 5)⟩,
 ⟨some 22,none,.idxSl 1 (.s 20) (.s 21)⟩,
 ⟨some 23,none,.load none none false (.s 22)⟩,
 ⟨some 24,none,.bin .neq (.s 19) (.s 23)⟩]) (
 z2K)
def z9L:z4a:=
 .seq (
 .block 1 (
 .seq (
 .region [5,12,13] [] [
 ⟨some 15,none,.mv false (.s 13)⟩,
 ⟨some 5,none,.mv false (.s 15)⟩]) (
 z6K))) (
 .region [12,13] [] [
 ⟨some 25,none,.bin .add (.s 13) (.c (i64 1))⟩,
 ⟨some 13,none,.mv false (.s 25)⟩])
def z6z:z4a:=
 .seq (
 .cond (.s 14) (
 .ghost (.keep [12,13]) .skip) (
 .ghost (.keep []) (.exit 0))) (
 z9L)
def z7z:z4a:=
 .seq (
 .region [12,13,14] [] [
 ⟨some 14,none,.bin .lss (.s 13) (.s 12)⟩]) (
 z6z)
def z63:z4a:=
 .block 0 (
 .loop z7z)
def z91:z4a:=
 .seq (
 .region [4] [] [
 ⟨some 4,none,.mv false (.c (bo true))⟩]) (
 .ret)
def z92:z4a:=
 .seq (
 .seq (
 .region [12,13] [] [
 ⟨some 11,none,.mv false (.s 0)⟩,
 ⟨some 12,none,.len false (.s 11)⟩,
 ⟨some 13,none,.mv false (.c (i64 0))⟩]) (
 z63)) (
 z91)
def z1K:z4a:=
 .seq (
 .seq (
 .region [10] [] [
 ⟨some 6,none,.mv false (.s 0)⟩,
 ⟨some 7,none,.len false (.s 6)⟩,
 ⟨some 8,none,.mv false (.s 1)⟩,
 ⟨some 9,none,.len false (.s 8)⟩,
 ⟨some 10,none,.bin .neq (.s 7) (.s 9)⟩]) (
 z0K)) (
 z92)
def z1m:z2t:=
 {n:=2,wr:=[],res:=[.t 4],body:=
 .seq (
 .region [] [] [
 ⟨some 4,none,.mv false (.c (bo false))⟩]) (
 z1K)}

end Go.Abs
end

section
namespace Go.Abs
set_option maxRecDepth 100000
def z7r:z4a:=
 .cond (.s 22) (
 .ghost (.keep [1,3,4,5]) .skip) (
 .ghost (.keep [1,3]) (.exit 0))
def z7D:z4a:=
 .seq (
 .block 1 (
 .region [1,3,4,5] [.norm [1]] [
 ⟨some 25,none,.mv true (.s 3)⟩,
 ⟨some 26,none,.mv false (.s 4)⟩,
 ⟨some 27,none,.mv false (.s 5)⟩,
 ⟨some 28,none,.idxSl 1 (.s 26) (.s 27)⟩,
 ⟨some 29,none,.load none none false (.s 28)⟩,
 ⟨some 30,none,.call 30 [(.s 29)] []⟩,
 ⟨some 31,none,.append 1 1 false none none 25 (.s 30)⟩,
 ⟨some 3,none,.mv true (.s 31)⟩])) (
 .region [1,3,4,5] [] [
 ⟨some 23,none,.mv false (.s 5)⟩,
 ⟨some 24,none,.bin .add (.s 23) (.c (i64 1))⟩,
 ⟨some 5,none,.mv false (.s 24)⟩])
def z6r:z4a:=
 .seq (
 .seq (
 .region [1,3,4,5,22] [] [
 ⟨some 19,none,.mv false (.s 5)⟩,
 ⟨some 20,none,.mv false (.s 4)⟩,
 ⟨some 21,none,.len false (.s 20)⟩,
 ⟨some 22,none,.bin .lss (.s 19) (.s 21)⟩]) (
 z7r)) (
 z7D)
def z62:z4a:=
 .block 0 (
 .loop z6r)
def z9F:z4a:=
 .seq (
 .region [2] [.norm [1]] [
 ⟨some 37,none,.mv true (.s 3)⟩,
 ⟨some 38,none,.fieldAddr 7 (.s 1)⟩,
 ⟨some 39,none,.load none (some 1) false (.s 38)⟩,
 ⟨some 40,none,.call 40 [(.s 39)] []⟩,
 ⟨some 41,none,.append 1 1 false none none 37 (.s 40)⟩,
 ⟨some 2,none,.mv true (.s 41)⟩]) (
 .ret)
def z1E:z4a:=
 .seq (
 .region [1,3] [.norm [1]] [
 ⟨some 32,none,.mv true (.s 3)⟩,
 ⟨some 33,none,.fieldAddr 6 (.s 1)⟩,
 ⟨some 34,none,.load none (some 1) false (.s 33)⟩,
 ⟨some 35,none,.call 29 [(.s 34)] []⟩,
 ⟨some 36,none,.append 1 1 false none none 32 (.s 35)⟩,
 ⟨some 3,none,.mv true (.s 36)⟩]) (
 z9F)
def z2F:z4a:=
 .seq (
 .seq (
 .region [1,3,4,5] [] [
 ⟨some 5,none,.mv false (.c (i64 0))⟩]) (
 z62)) (
 z1E)
def z0G:z4a:=
 .seq (
 .region [1,3,4] [.norm [1]] [
 ⟨some 6,none,.fieldAddr 0 (.s 1)⟩,
 ⟨some 7,none,.load none (some 1) false (.s 6)⟩,
 ⟨some 8,none,.fieldAddr 1 (.s 1)⟩,
 ⟨some 9,none,.load none (some 1) false (.s 8)⟩,
 ⟨some 10,none,.fieldAddr 2 (.s 1)⟩,
 ⟨some 11,none,.load none (some 1) false (.s 10)⟩,
 ⟨some 12,none,.fieldAddr 3 (.s 1)⟩,
 ⟨some 13,none,.load none (some 1) false (.s 12)⟩,
 ⟨some 14,none,.fieldAddr 4 (.s 1)⟩,
 ⟨some 15,none,.load none (some 1) false (.s 14)⟩,
 ⟨some 16,none,.fieldAddr 5 (.s 1)⟩,
 ⟨some 17,none,.load none (some 1) false (.s 16)⟩,
 ⟨some 18,none,.buildSl 1 6 [i64 0,i64 0,i64 0,i64 0,i64 0,i64 0] [(0,1,(.s 7)),(1,1,(.s 9)),(2,1,(.s 11)),(3,1,(.s 13)),(4,1,(.s 15)),(5,1,(.s 17))]⟩,
 ⟨some 4,none,.mv true (.s 18)⟩]) (
 z2F)
def z1G:z4a:=
 .seq (
 .region [1,3] [] [
 ⟨some 3,none,.mv true (.c (.sl (.own 1) none 0 []))⟩]) (
 z0G)
def z0g:z2t:=
 {n:=1,wr:=[],res:=[.t 2],body:=
 .seq (
 .region [1] [.norm [1]] [
 ⟨some 1,none,.box 1 (some 8) false (.s 0)⟩,
 ⟨some 2,none,.mv true (.c (.sl (.own 1) none 0 []))⟩]) (
 z1G)}

def z3E:z4a:=
 .seq (
 .region [2] [.norm [1,2]] [
 ⟨some 3,none,.load (some 8) (some 1) false (.s 1)⟩,
 ⟨some 4,none,.call 147 [(.s 3)] []⟩,
 ⟨some 5,none,.toStr none (.s 4)⟩,
 ⟨some 6,none,.buildSl 1 1 [st []] [(0,1,(.s 5))]⟩,
 ⟨some 7,none,.call 20 [(.c (i64 7)),(.s 6)] []⟩,
 ⟨none,none,.store (some 16) 2 false (.s 2) (.s 7)⟩]) (
 .ret)
def z3g:z2t:=
 {n:=1,wr:=[],res:=[.cell 2 (some 16) 2],body:=
 .seq (
 .region [1,2] [.norm [1,2]] [
 ⟨some 1,none,.box 1 (some 8) false (.s 0)⟩,
 ⟨some 2,none,.alloc 2 (bys (z4c 16))⟩]) (
 z3E)}

end Go.Abs
end

section
namespace Go.Abs
def kM:List LK:=[.int .i64,.int .i64,.int .i64,.int .i64,.int .i64,.int .i64,.int .i64,.bool,.int .u8,.int .u8,.int .u8,.int .u8,.int .u8,.int .u8,.int .u8,.int .u8,.int .u8,.int .u8,.int .u8,.int .u8,.int .u8,.int .u8,.int .u8,.int .u8]
end Go.Abs
end

section
namespace Go.Abs
set_option maxRecDepth 100000
def z9r:z2t:=
 {n:=6,wr:=[],res:=[.cell 12 (some 30) 12],body:=
 .seq (
 .region [7,12] [.norm [7,12]] [
 ⟨some 7,none,.box 7 (some 8) false (.s 1)⟩,
 ⟨some 12,none,.alloc 12 (List.replicate 10 (i64 0)++[st []]++[.sl .plain none 0 []]++bys (z4c 16)++[.sl (.own 24) none 0 []]++[.sl (.own 1) none 0 []])⟩]) (
 .seq (
 .region [12] [.norm [7,12]] [
 ⟨some 13,none,.mv false (.s 0)⟩,
 ⟨some 14,none,.fieldAddr 0 (.s 7)⟩,
 ⟨some 15,none,.load none (some 7) false (.s 14)⟩,
 ⟨some 16,none,.mv false (.s 2)⟩,
 ⟨some 17,none,.mv false (.s 3)⟩,
 ⟨some 18,none,.load (some 8) (some 7) false (.s 7)⟩,
 ⟨some 19,none,.call 289 [(.s 18)] []⟩,
 ⟨some 20,none,.load (some 8) (some 7) false (.s 7)⟩,
 ⟨some 21,none,.call 131 [(.s 20)] []⟩,
 ⟨some 22,none,.mv false (.s 4)⟩,
 ⟨some 23,none,.call 290 [(.s 22)] []⟩,
 ⟨some 24,none,.mv false (.s 5)⟩,
 ⟨some 25,none,.call 291 [(.s 24)] []⟩,
 ⟨some 26,none,.build (List.replicate 10 (i64 0)++[st []]++[.sl .plain none 0 []]++bys (z4c 16)++[.sl .plain none 0 []]++[.sl .plain none 0 []]) [(0,1,(.s 13)),(1,1,(.s 15)),(2,1,(.s 16)),(3,1,(.s 17)),(4,8,(.s 19)),(12,16,(.s 21)),(28,1,(.s 23)),(29,1,(.s 25))]⟩,
 ⟨none,none,.store (some 30) 12 false (.s 12) (.s 26)⟩]) (
 .ret))}

def z8P:z4a:=
 .seq (
 .region [1,2] [.norm [1,2]] [
 ⟨some 7,none,.fieldAddr 7 (.s 1)⟩,
 ⟨some 8,none,.load none (some 1) false (.s 7)⟩,
 ⟨some 9,none,.call 291 [(.s 8)] []⟩,
 ⟨some 10,none,.fieldAddr 7 (.s 1)⟩,
 ⟨none,none,.store none 1 false (.s 10) (.s 9)⟩]) (
 .seq (
 .region [2] [.norm [1,2]] [
 ⟨some 11,none,.load (some 8) (some 1) false (.s 1)⟩,
 ⟨none,none,.store (some 8) 2 false (.s 2) (.s 11)⟩]) (
 .ret))
def z9n:z2t:=
 {n:=1,wr:=[],res:=[.cell 2 (some 8) 2],body:=
 .seq (
 .region [1,2] [.norm [1,2]] [
 ⟨some 1,none,.box 1 (some 8) false (.s 0)⟩,
 ⟨some 2,none,.alloc 2 (List.replicate 6 (i64 0)++[st []]++[.sl .plain none 0 []])⟩]) (
 .seq (
 .seq (
 .region [1,2,5] [.norm [1,2]] [
 ⟨some 3,none,.fieldAddr 0 (.s 1)⟩,
 ⟨some 4,none,.load none (some 1) false (.s 3)⟩,
 ⟨some 5,none,.call 293 [(.s 4)] []⟩]) (
 .cond (.s 5) (
 .region [1,2] [.norm [1,2]] [
 ⟨some 6,none,.fieldAddr 6 (.s 1)⟩,
 ⟨none,none,.store none 1 false (.s 6) (.c (st []))⟩]) (
 .ghost (.keep [1,2]) .skip))) (
 z8P))}

def z2s:z2t:=
 {n:=2,wr:=[],res:=[.cell 4 (some 30) 4],body:=
 .seq (
 .region [4] [.norm [4]] [
 ⟨some 4,none,.alloc 4 (List.replicate 10 (i64 0)++[st []]++[.sl .plain none 0 []]++bys (z4c 16)++[.sl (.own 24) none 0 []]++[.sl (.own 1) none 0 []])⟩]) (
 .seq (
 .region [4] [.norm [4]] [
 ⟨some 5,none,.mv false (.s 0)⟩,
 ⟨some 6,none,.mv false (.s 1)⟩,
 ⟨some 7,none,.build (List.replicate 10 (i64 0)++[st []]++[.sl .plain none 0 []]++bys (z4c 16)++[.sl .plain none 0 []]++[.sl .plain none 0 []]) [(0,1,(.s 5)),(3,1,(.s 6))]⟩,
 ⟨none,none,.store (some 30) 4 false (.s 4) (.s 7)⟩]) (
 .ret))}

def z55:List z1d:=
 [
 ⟨some 4,none,.fieldAddr 0 (.s 1)⟩,
 ⟨some 5,none,.load none (some 1) false (.s 4)⟩,
 ⟨some 6,none,.call 295 [(.s 5),(.c (i64 0)),(.c (i64 1099511627776))] []⟩,
 ⟨some 7,none,.un .not (.s 6)⟩,
 ⟨some 8,none,.mv false (.s 7)⟩]
def z06:List z1d:=
 [
 ⟨some 9,(some (8,false)),.fieldAddr 2 (.s 1)⟩,
 ⟨some 10,(some (8,false)),.load none (some 1) false (.s 9)⟩,
 ⟨some 11,(some (8,false)),.call 295 [(.s 10),(.c (i64 0)),(.c (i64 2147483647))] []⟩,
 ⟨some 12,(some (8,false)),.un .not (.s 11)⟩,
 ⟨some 13,none,.pick (.s 8) (.c (bo true)) (.s 12)⟩,
 ⟨some 14,none,.mv false (.s 13)⟩]
def z35:List z1d:=
 [
 ⟨some 15,(some (14,false)),.fieldAddr 3 (.s 1)⟩,
 ⟨some 16,(some (14,false)),.load none (some 1) false (.s 15)⟩,
 ⟨some 17,(some (14,false)),.call 295 [(.s 16),(.c (i64 1)),(.c (i64 5))] []⟩,
 ⟨some 18,(some (14,false)),.un .not (.s 17)⟩,
 ⟨some 19,none,.pick (.s 14) (.c (bo true)) (.s 18)⟩,
 ⟨some 20,none,.mv false (.s 19)⟩]
def z74:List z1d:=
 [
 ⟨some 21,(some (20,false)),.fieldAddr 28 (.s 1)⟩,
 ⟨some 22,(some (20,false)),.load none (some 1) false (.s 21)⟩,
 ⟨some 23,(some (20,false)),.len false (.s 22)⟩,
 ⟨some 24,(some (20,false)),.bin .gtr (.s 23) (.c (i64 4096))⟩,
 ⟨some 25,none,.pick (.s 20) (.c (bo true)) (.s 24)⟩,
 ⟨some 26,none,.mv false (.s 25)⟩]
def z7P:List z1d:=
 [
 ⟨some 27,(some (26,false)),.fieldAddr 29 (.s 1)⟩,
 ⟨some 28,(some (26,false)),.load none (some 1) false (.s 27)⟩,
 ⟨some 29,(some (26,false)),.len false (.s 28)⟩,
 ⟨some 30,(some (26,false)),.bin .gtr (.s 29) (.c (i64 4096))⟩,
 ⟨some 31,none,.pick (.s 26) (.c (bo true)) (.s 30)⟩]
def z2P:List z1d:=
 [
 ⟨some 46,none,.fieldAddr 1 (.s 1)⟩,
 ⟨some 47,none,.load none (some 1) false (.s 46)⟩,
 ⟨some 48,none,.call 295 [(.s 47),(.c (i64 1)),(.c (i64 27))] []⟩,
 ⟨some 49,none,.mv false (.s 48)⟩]
def z5C:List z1d:=
 [
 ⟨some 50,(some (49,true)),.fieldAddr 4 (.s 1)⟩,
 ⟨some 51,(some (49,true)),.fieldAddr 0 (.s 50)⟩,
 ⟨some 52,(some (49,true)),.load none (some 1) false (.s 51)⟩,
 ⟨some 53,(some (49,true)),.fieldAddr 1 (.s 1)⟩,
 ⟨some 54,(some (49,true)),.load none (some 1) false (.s 53)⟩,
 ⟨some 55,(some (49,true)),.bin .eql (.s 52) (.s 54)⟩,
 ⟨some 56,none,.pick (.s 49) (.s 55) (.c (bo false))⟩,
 ⟨some 57,none,.mv false (.s 56)⟩]
def z6t:List z1d:=
 [
 ⟨some 58,(some (57,true)),.fieldAddr 1 (.s 1)⟩,
 ⟨some 59,(some (57,true)),.load none (some 1) false (.s 58)⟩,
 ⟨some 60,(some (57,true)),.call 293 [(.s 59)] []⟩,
 ⟨some 61,(some (57,true)),.un .not (.s 60)⟩,
 ⟨some 62,(some (57,true)),.mv false (.s 61)⟩,
 ⟨some 63,(some (62,false)),.fieldAddr 4 (.s 1)⟩,
 ⟨some 64,(some (62,false)),.fieldAddr 6 (.s 63)⟩,
 ⟨some 65,(some (62,false)),.load none (some 1) false (.s 64)⟩,
 ⟨some 66,(some (62,false)),.bin .eql (.s 65) (.c (st []))⟩,
 ⟨some 67,(some (57,true)),.pick (.s 62) (.c (bo true)) (.s 66)⟩,
 ⟨some 68,none,.pick (.s 57) (.s 67) (.c (bo false))⟩,
 ⟨some 2,none,.mv false (.s 68)⟩]
def z05:z4a:=
 .seq (
 .region [2] [.norm [1,3]] (z2P++(z5C++(z6t)))) (
 .ret)
def z5P:z4a:=
 .seq (
 .seq (
 .region [1,38] [.norm [1,3]] [
 ⟨some 36,none,.fieldAddr 1 (.s 1)⟩,
 ⟨some 37,none,.load none (some 1) false (.s 36)⟩,
 ⟨some 38,none,.bin .eql (.s 37) (.c (i64 0))⟩]) (
 .cond (.s 38) (
 .seq (
 .region [2] [.norm [1,3]] [
 ⟨some 39,none,.load (some 30) (some 1) false (.s 1)⟩,
 ⟨some 40,none,.fieldAddr 0 (.s 1)⟩,
 ⟨some 41,none,.load none (some 1) false (.s 40)⟩,
 ⟨some 42,none,.fieldAddr 3 (.s 1)⟩,
 ⟨some 43,none,.load none (some 1) false (.s 42)⟩,
 ⟨some 44,none,.call 294 [(.s 41),(.s 43)] []⟩,
 ⟨some 45,none,.call 299 [(.s 39),(.s 44)] []⟩,
 ⟨some 2,none,.mv false (.s 45)⟩]) (
 .ret)) (
 .ghost (.keep [1]) .skip))) (
 z05)
def z6C:z4a:=
 .seq (
 .region [1,3] [.norm [1,3]] [
 ⟨some 3,none,.alloc 3 [.lit .nilFunc]⟩,
 ⟨none,none,.store none 3 false (.s 3) (.c (.fn 296 [] []))⟩]) (
 .seq (
 .seq (
 .region [1,35] [.norm [1,3]] [
 ⟨some 32,none,.fieldAddr 28 (.s 1)⟩,
 ⟨some 33,none,.load none (some 1) false (.s 32)⟩,
 ⟨some 34,none,.mkfn 297 [] [(.s 3)]⟩,
 ⟨some 35,none,.call 298 [(.s 33),(.s 34)] [3]⟩]) (
 .cond (.s 35) (
 .seq (
 .region [2] [] [
 ⟨some 2,none,.mv false (.c (bo false))⟩]) (
 .ret)) (
 .ghost (.keep [1]) .skip))) (
 z5P))
def z7p:z2t:=
 {n:=1,wr:=[],res:=[.t 2],body:=
 .seq (
 .region [1] [.norm [1]] [
 ⟨some 1,none,.box 1 (some 30) false (.s 0)⟩,
 ⟨some 2,none,.mv false (.c (bo false))⟩]) (
 .seq (
 .seq (
 .region [1,31] [.norm [1]] (z55++(z06++(z35++(z74++(z7P)))))) (
 .cond (.s 31) (
 .seq (
 .region [2] [] [
 ⟨some 2,none,.mv false (.c (bo false))⟩]) (
 .ret)) (
 .ghost (.keep [1]) .skip))) (
 z6C))}

def z07:List z1d:=
 [
 ⟨some 5,none,.fieldAddr 0 (.s 2)⟩,
 ⟨some 6,none,.load none (some 2) false (.s 5)⟩,
 ⟨some 7,none,.fieldAddr 0 (.s 3)⟩,
 ⟨some 8,none,.load none (some 3) false (.s 7)⟩,
 ⟨some 9,none,.bin .eql (.s 6) (.s 8)⟩,
 ⟨some 10,none,.mv false (.s 9)⟩]
def z49:List z1d:=
 [
 ⟨some 11,(some (10,true)),.fieldAddr 1 (.s 2)⟩,
 ⟨some 12,(some (10,true)),.load none (some 2) false (.s 11)⟩,
 ⟨some 13,(some (10,true)),.fieldAddr 1 (.s 3)⟩,
 ⟨some 14,(some (10,true)),.load none (some 3) false (.s 13)⟩,
 ⟨some 15,(some (10,true)),.bin .eql (.s 12) (.s 14)⟩,
 ⟨some 16,none,.pick (.s 10) (.s 15) (.c (bo false))⟩,
 ⟨some 17,none,.mv false (.s 16)⟩]
def z66:List z1d:=
 [
 ⟨some 18,(some (17,true)),.fieldAddr 2 (.s 2)⟩,
 ⟨some 19,(some (17,true)),.load none (some 2) false (.s 18)⟩,
 ⟨some 20,(some (17,true)),.fieldAddr 2 (.s 3)⟩,
 ⟨some 21,(some (17,true)),.load none (some 3) false (.s 20)⟩,
 ⟨some 22,(some (17,true)),.bin .eql (.s 19) (.s 21)⟩,
 ⟨some 23,none,.pick (.s 17) (.s 22) (.c (bo false))⟩,
 ⟨some 24,none,.mv false (.s 23)⟩]
def z37:List z1d:=
 [
 ⟨some 25,(some (24,true)),.fieldAddr 3 (.s 2)⟩,
 ⟨some 26,(some (24,true)),.load none (some 2) false (.s 25)⟩,
 ⟨some 27,(some (24,true)),.fieldAddr 3 (.s 3)⟩,
 ⟨some 28,(some (24,true)),.load none (some 3) false (.s 27)⟩,
 ⟨some 29,(some (24,true)),.bin .eql (.s 26) (.s 28)⟩,
 ⟨some 30,none,.pick (.s 24) (.s 29) (.c (bo false))⟩,
 ⟨some 31,none,.mv false (.s 30)⟩]
def z96:List z1d:=
 [
 ⟨some 32,(some (31,true)),.fieldAddr 12 (.s 2)⟩,
 ⟨some 33,(some (31,true)),.load (some 16) (some 2) false (.s 32)⟩,
 ⟨some 34,(some (31,true)),.fieldAddr 12 (.s 3)⟩,
 ⟨some 35,(some (31,true)),.load (some 16) (some 3) false (.s 34)⟩,
 ⟨some 36,(some (31,true)),.eqF (ks8 16) false (.s 33) (.s 35)⟩,
 ⟨some 37,none,.pick (.s 31) (.s 36) (.c (bo false))⟩,
 ⟨some 38,none,.mv false (.s 37)⟩]
def z77:List z1d:=
 [
 ⟨some 39,(some (38,true)),.fieldAddr 4 (.s 2)⟩,
 ⟨some 40,(some (38,true)),.load (some 8) (some 2) false (.s 39)⟩,
 ⟨some 41,(some (38,true)),.fieldAddr 4 (.s 3)⟩,
 ⟨some 42,(some (38,true)),.load (some 8) (some 3) false (.s 41)⟩,
 ⟨some 43,(some (38,true)),.call 133 [(.s 40),(.s 42)] []⟩,
 ⟨some 44,none,.pick (.s 38) (.s 43) (.c (bo false))⟩,
 ⟨some 45,none,.mv false (.s 44)⟩]
def z87:List z1d:=
 [
 ⟨some 46,(some (45,true)),.fieldAddr 28 (.s 2)⟩,
 ⟨some 47,(some (45,true)),.load none (some 2) false (.s 46)⟩,
 ⟨some 48,(some (45,true)),.fieldAddr 28 (.s 3)⟩,
 ⟨some 49,(some (45,true)),.load none (some 3) false (.s 48)⟩,
 ⟨some 50,(some (45,true)),.call 301 [(.s 47),(.s 49)] []⟩,
 ⟨some 51,none,.pick (.s 45) (.s 50) (.c (bo false))⟩,
 ⟨some 52,none,.mv false (.s 51)⟩]
def z76:List z1d:=
 [
 ⟨some 53,(some (52,true)),.fieldAddr 29 (.s 2)⟩,
 ⟨some 54,(some (52,true)),.load none (some 2) false (.s 53)⟩,
 ⟨some 55,(some (52,true)),.fieldAddr 29 (.s 3)⟩,
 ⟨some 56,(some (52,true)),.load none (some 3) false (.s 55)⟩,
 ⟨some 57,(some (52,true)),.call 132 [(.s 54),(.s 56)] []⟩,
 ⟨some 58,none,.pick (.s 52) (.s 57) (.c (bo false))⟩,
 ⟨some 4,none,.mv false (.s 58)⟩]
def z4s:z2t:=
 {n:=2,wr:=[],res:=[.t 4],body:=
 .seq (
 .region [2,3] [.norm [2,3]] [
 ⟨some 2,none,.box 2 (some 30) false (.s 0)⟩,
 ⟨some 3,none,.box 3 (some 30) false (.s 1)⟩,
 ⟨some 4,none,.mv false (.c (bo false))⟩]) (
 .seq (
 .region [4] [.norm [2,3]] (z07++(z49++(z66++(z37++(z96++(z77++(z87++(z76))))))))) (
 .ret))}

def z8K:z4a:=
 .region [1,3,31,32,33] [] [
 ⟨some 39,none,.mv true (.s 3)⟩,
 ⟨some 40,none,.fieldAddr 0 (.s 5)⟩,
 ⟨some 41,none,.load none none false (.s 40)⟩,
 ⟨some 42,none,.fieldAddr 1 (.s 5)⟩,
 ⟨some 43,none,.load none none false (.s 42)⟩,
 ⟨some 44,none,.fieldAddr 2 (.s 5)⟩,
 ⟨some 45,none,.load none none false (.s 44)⟩,
 ⟨some 46,none,.fieldAddr 3 (.s 5)⟩,
 ⟨some 47,none,.load none none false (.s 46)⟩,
 ⟨some 48,none,.fieldAddr 4 (.s 5)⟩,
 ⟨some 49,none,.load none none false (.s 48)⟩,
 ⟨some 50,none,.fieldAddr 5 (.s 5)⟩,
 ⟨some 51,none,.load none none false (.s 50)⟩,
 ⟨some 52,none,.fieldAddr 6 (.s 5)⟩,
 ⟨some 53,none,.load none none false (.s 52)⟩,
 ⟨some 54,none,.mv false (.s 6)⟩,
 ⟨some 55,none,.buildSl 1 8 [i64 0,i64 0,i64 0,i64 0,i64 0,i64 0,i64 0,i64 0] [(0,1,(.s 41)),(1,1,(.s 43)),(2,1,(.s 45)),(3,1,(.s 47)),(4,1,(.s 49)),(5,1,(.s 51)),(6,1,(.s 53)),(7,1,(.s 54))]⟩,
 ⟨some 56,none,.call 39 [(.s 55)] []⟩,
 ⟨some 57,none,.fieldAddr 8 (.s 5)⟩,
 ⟨some 58,none,.slArr 16 1 (.s 57) none none none⟩,
 ⟨some 59,none,.buildSl 1 3 [.sl .plain none 0 [],.sl .plain none 0 [],.sl .plain none 0 []] [(0,1,(.s 39)),(1,1,(.s 56)),(2,1,(.s 58))]⟩,
 ⟨some 60,none,.call 129 [(.s 59)] []⟩,
 ⟨some 3,none,.mv true (.s 60)⟩]
def z4K:z4a:=
 .seq (
 .block 1 (
 .seq (
 .region [1,3,5,31,32,33] [.norm [5],.freeze [5],.norm []] [
 ⟨some 35,none,.idxSl 24 (.s 31) (.s 33)⟩,
 ⟨some 36,none,.load (some 24) none false (.s 35)⟩,
 ⟨some 5,none,.alloc 5 (List.replicate 7 (i64 0)++[bo false]++bys (z4c 16))⟩,
 ⟨none,none,.store (some 24) 5 false (.s 5) (.s 36)⟩]) (
 .seq (
 .region [1,3,5,6,31,32,33] [] [
 ⟨some 6,none,.mv false (.c (i64 0))⟩]) (
 .seq (
 .seq (
 .region [1,3,5,6,31,32,33,38] [] [
 ⟨some 37,none,.fieldAddr 7 (.s 5)⟩,
 ⟨some 38,none,.load none none false (.s 37)⟩]) (
 .cond (.s 38) (
 .region [1,3,5,6,31,32,33] [] [
 ⟨some 6,none,.mv false (.c (i64 1))⟩]) (
 .ghost (.keep [1,3,5,6,31,32,33]) .skip))) (
 z8K))))) (
 .region [1,3,31,32,33] [.drop [5]] [
 ⟨some 61,none,.bin .add (.s 33) (.c (i64 1))⟩,
 ⟨some 33,none,.mv false (.s 61)⟩])
def z5z:z4a:=
 .seq (
 .region [1,3,31,32,33,34] [] [
 ⟨some 34,none,.bin .lss (.s 33) (.s 32)⟩]) (
 .seq (
 .cond (.s 34) (
 .ghost (.keep [1,3,31,32,33]) .skip) (
 .ghost (.keep [1,3]) (.exit 0))) (
 z4K))
def z9Y:z4a:=
 .seq (
 .region [2] [] [
 ⟨some 62,none,.mv true (.s 3)⟩,
 ⟨some 63,none,.fieldAddr 29 (.s 1)⟩,
 ⟨some 64,none,.load none none false (.s 63)⟩,
 ⟨some 65,none,.call 39 [(.s 64)] []⟩,
 ⟨some 66,none,.append 1 1 false none none 62 (.s 65)⟩,
 ⟨some 67,none,.toStr none (.s 66)⟩,
 ⟨some 2,none,.mv false (.s 67)⟩]) (
 .ret)
def z4o:z2t:=
 {n:=1,wr:=[],res:=[.t 2],body:=
 .seq (
 .region [1] [.norm [1],.freeze [1],.norm []] [
 ⟨some 1,none,.box 1 (some 30) false (.s 0)⟩,
 ⟨some 2,none,.mv false (.c (st []))⟩]) (
 .seq (
 .region [1,3] [] [
 ⟨some 7,none,.fieldAddr 0 (.s 1)⟩,
 ⟨some 8,none,.load none none false (.s 7)⟩,
 ⟨some 9,none,.fieldAddr 1 (.s 1)⟩,
 ⟨some 10,none,.load none none false (.s 9)⟩,
 ⟨some 11,none,.fieldAddr 2 (.s 1)⟩,
 ⟨some 12,none,.load none none false (.s 11)⟩,
 ⟨some 13,none,.fieldAddr 3 (.s 1)⟩,
 ⟨some 14,none,.load none none false (.s 13)⟩,
 ⟨some 15,none,.buildSl 1 4 [i64 0,i64 0,i64 0,i64 0] [(0,1,(.s 8)),(1,1,(.s 10)),(2,1,(.s 12)),(3,1,(.s 14))]⟩,
 ⟨some 16,none,.call 39 [(.s 15)] []⟩,
 ⟨some 17,none,.fieldAddr 4 (.s 1)⟩,
 ⟨some 18,none,.load (some 8) none false (.s 17)⟩,
 ⟨some 19,none,.call 130 [(.s 18)] []⟩,
 ⟨some 20,none,.toStr none (.s 19)⟩,
 ⟨some 21,none,.call 7 [(.s 20)] []⟩,
 ⟨some 22,none,.fieldAddr 12 (.s 1)⟩,
 ⟨some 23,none,.slArr 16 1 (.s 22) none none none⟩,
 ⟨some 24,none,.fieldAddr 28 (.s 1)⟩,
 ⟨some 25,none,.load none none false (.s 24)⟩,
 ⟨some 26,none,.len false (.s 25)⟩,
 ⟨some 27,none,.call 12 [(.s 26)] []⟩,
 ⟨some 28,none,.buildSl 1 4 [.sl .plain none 0 [],.sl .plain none 0 [],.sl .plain none 0 [],.sl .plain none 0 []] [(0,1,(.s 16)),(1,1,(.s 21)),(2,1,(.s 23)),(3,1,(.s 27))]⟩,
 ⟨some 29,none,.call 129 [(.s 28)] []⟩,
 ⟨some 3,none,.mv true (.s 29)⟩]) (
 .seq (
 .seq (
 .region [1,3,31,32,33] [] [
 ⟨some 30,none,.fieldAddr 28 (.s 1)⟩,
 ⟨some 31,none,.load none none false (.s 30)⟩,
 ⟨some 32,none,.len false (.s 31)⟩,
 ⟨some 33,none,.mv false (.c (i64 0))⟩]) (
 .block 0 (
 .loop z5z))) (
 z9Y)))}

def z2o:z2t:=
 {n:=1,wr:=[],res:=[.cell 2 (some 16) 2],body:=
 .seq (
 .region [1,2] [.norm [1,2]] [
 ⟨some 1,none,.box 1 (some 30) false (.s 0)⟩,
 ⟨some 2,none,.alloc 2 (bys (z4c 16))⟩]) (
 .seq (
 .region [2] [.norm [1,2]] [
 ⟨some 3,none,.load (some 30) (some 1) false (.s 1)⟩,
 ⟨some 4,none,.call 302 [(.s 3)] []⟩,
 ⟨some 5,none,.buildSl 1 1 [st []] [(0,1,(.s 4))]⟩,
 ⟨some 6,none,.call 8 [(.c (i64 8)),(.s 5)] []⟩,
 ⟨none,none,.store (some 16) 2 false (.s 2) (.s 6)⟩]) (
 .ret))}

def z0s:z2t:=
 {n:=0,wr:=[],res:=[.cell 0 (some 5) 0],body:=
 .seq (
 .region [0] [.norm [0]] [
 ⟨some 0,none,.alloc 0 ([i64 0,i64 0,i64 0,i64 0]++[.sl (.own 24) none 0 []])⟩]) (
 .seq (
 .region [0] [.norm [0]] [
 ⟨some 1,none,.build [i64 0,i64 0,i64 0,i64 0,.sl .plain none 0 []] [(1,1,(.c (i64 1))),(3,1,(.c (i64 1)))]⟩,
 ⟨none,none,.store (some 5) 0 false (.s 0) (.s 1)⟩]) (
 .ret))}

def z4H:z4a:=
 .seq (
 .block 1 (
 .seq (
 .region [4,6,8,9,10] [.norm [2,6]] [
 ⟨some 12,none,.idxSl 24 (.s 8) (.s 10)⟩,
 ⟨some 13,none,.load (some 24) none false (.s 12)⟩,
 ⟨some 6,none,.alloc 6 (List.replicate 7 (i64 0)++[bo false]++bys (z4c 16))⟩,
 ⟨none,none,.store (some 24) 6 false (.s 6) (.s 13)⟩]) (
 .seq (
 .region [4,6,8,9,10,23] [.norm [2,6]] [
 ⟨some 14,none,.fieldAddr 3 (.s 6)⟩,
 ⟨some 15,none,.load none (some 6) false (.s 14)⟩,
 ⟨some 16,none,.mv false (.s 1)⟩,
 ⟨some 17,none,.bin .leq (.s 15) (.s 16)⟩,
 ⟨some 18,none,.mv false (.s 17)⟩,
 ⟨some 19,(some (18,true)),.mv false (.s 1)⟩,
 ⟨some 20,(some (18,true)),.fieldAddr 4 (.s 6)⟩,
 ⟨some 21,(some (18,true)),.load none (some 6) false (.s 20)⟩,
 ⟨some 22,(some (18,true)),.bin .lss (.s 19) (.s 21)⟩,
 ⟨some 23,none,.pick (.s 18) (.s 22) (.c (bo false))⟩]) (
 .cond (.s 23) (
 .region [4,8,9,10] [.norm [2,6]] [
 ⟨some 24,none,.mv true (.s 4)⟩,
 ⟨some 25,none,.load (some 24) (some 6) false (.s 6)⟩,
 ⟨some 26,none,.buildSl 24 1 [i64 0,i64 0,i64 0,i64 0,i64 0,i64 0,i64 0,bo false,u8 0,u8 0,u8 0,u8 0,u8 0,u8 0,u8 0,u8 0,u8 0,u8 0,u8 0,u8 0,u8 0,u8 0,u8 0,u8 0] [(0,24,(.s 25))]⟩,
 ⟨some 27,none,.append 24 80 false none none 24 (.s 26)⟩,
 ⟨some 4,none,.mv true (.s 27)⟩]) (
 .ghost (.keep [4,8,9,10]) .skip))))) (
 .region [4,8,9,10] [.drop [6]] [
 ⟨some 28,none,.bin .add (.s 10) (.c (i64 1))⟩,
 ⟨some 10,none,.mv false (.s 28)⟩])
def z3y:z4a:=
 .seq (
 .region [4,8,9,10,11] [] [
 ⟨some 11,none,.bin .lss (.s 10) (.s 9)⟩]) (
 .seq (
 .cond (.s 11) (
 .ghost (.keep [4,8,9,10]) .skip) (
 .ghost (.keep [4]) (.exit 0))) (
 z4H))
def z69:z4a:=
 .seq (
 .region [4] [] [
 ⟨some 29,none,.mv true (.s 4)⟩,
 ⟨some 4,none,.mv true (.s 29)⟩]) (
 .ret)
def z5s:z2t:=
 {n:=2,wr:=[],res:=[.t 4],body:=
 .seq (
 .region [2,4] [.norm [2]] [
 ⟨some 2,none,.box 2 (some 5) false (.s 0)⟩,
 ⟨some 4,none,.mv true (.c (.sl (.own 24) none 0 []))⟩]) (
 .seq (
 .seq (
 .region [4,8,9,10] [.norm [2]] [
 ⟨some 7,none,.fieldAddr 4 (.s 2)⟩,
 ⟨some 8,none,.load none (some 2) false (.s 7)⟩,
 ⟨some 9,none,.len false (.s 8)⟩,
 ⟨some 10,none,.mv false (.c (i64 0))⟩]) (
 .block 0 (
 .loop z3y))) (
 z69))}

def z2J:z4a:=
 .seq (
 .region [2] [] [
 ⟨some 5,none,.buildSl 24 0 [] []⟩,
 ⟨some 6,none,.mv false (.s 0)⟩,
 ⟨some 7,none,.append 24 80 false none none 5 (.s 6)⟩,
 ⟨some 2,none,.mv true (.s 7)⟩]) (
 .ret)
def z5g:z2t:=
 {n:=1,wr:=[],res:=[.t 2],body:=
 .seq (
 .region [] [] [
 ⟨some 2,none,.mv true (.c (.sl (.own 24) none 0 []))⟩]) (
 .seq (
 .seq (
 .region [4] [] [
 ⟨some 3,none,.mv false (.s 0)⟩,
 ⟨some 4,none,.eqnil false (.s 3) (.c (.lit (.slice none 0 0)))⟩]) (
 .cond (.s 4) (
 .seq (
 .region [2] [] [
 ⟨some 2,none,.mv true (.c (.sl (.own 24) none 0 []))⟩]) (
 .ret)) (
 .ghost (.keep []) .skip))) (
 z2J))}

def z2O:z4a:=
 .seq (
 .region [2] [] [
 ⟨some 5,none,.buildSl 1 0 [] []⟩,
 ⟨some 6,none,.mv false (.s 0)⟩,
 ⟨some 7,none,.append 1 8 false none none 5 (.s 6)⟩,
 ⟨some 2,none,.mv true (.s 7)⟩]) (
 .ret)
def z6h:z2t:=
 {n:=1,wr:=[],res:=[.t 2],body:=
 .seq (
 .region [] [] [
 ⟨some 2,none,.mv true (.c (.sl (.own 1) none 0 []))⟩]) (
 .seq (
 .seq (
 .region [4] [] [
 ⟨some 3,none,.mv false (.s 0)⟩,
 ⟨some 4,none,.eqnil false (.s 3) (.c (.lit (.slice none 0 0)))⟩]) (
 .cond (.s 4) (
 .seq (
 .region [2] [] [
 ⟨some 2,none,.mv true (.c (.sl (.own 1) none 0 []))⟩]) (
 .ret)) (
 .ghost (.keep []) .skip))) (
 z2O))}

def z5o:z2t:=
 {n:=1,wr:=[],res:=[.t 2],body:=
 .seq (
 .region [] [] [
 ⟨some 2,none,.mv false (.c (bo false))⟩]) (
 .seq (
 .region [2] [] [
 ⟨some 3,none,.buildSl 1 8 [i64 0,i64 0,i64 0,i64 0,i64 0,i64 0,i64 0,i64 0] [(0,1,(.c (i64 2))),(1,1,(.c (i64 4))),(2,1,(.c (i64 5))),(3,1,(.c (i64 6))),(4,1,(.c (i64 8))),(5,1,(.c (i64 10))),(6,1,(.c (i64 15))),(7,1,(.c (i64 19)))]⟩,
 ⟨some 4,none,.mv false (.s 0)⟩,
 ⟨some 5,none,.call 312 [(.s 3),(.s 4)] []⟩,
 ⟨some 2,none,.mv false (.s 5)⟩]) (
 .ret))}

def z6k:z2t:=
 {n:=3,wr:=[],res:=[.t 6],body:=
 .seq (
 .region [] [] [
 ⟨some 6,none,.mv false (.c (bo false))⟩]) (
 .seq (
 .region [6] [] [
 ⟨some 7,none,.mv false (.s 1)⟩,
 ⟨some 8,none,.mv false (.s 0)⟩,
 ⟨some 9,none,.bin .leq (.s 7) (.s 8)⟩,
 ⟨some 10,none,.mv false (.s 9)⟩,
 ⟨some 11,(some (10,true)),.mv false (.s 0)⟩,
 ⟨some 12,(some (10,true)),.mv false (.s 2)⟩,
 ⟨some 13,(some (10,true)),.bin .leq (.s 11) (.s 12)⟩,
 ⟨some 14,none,.pick (.s 10) (.s 13) (.c (bo false))⟩,
 ⟨some 6,none,.mv false (.s 14)⟩]) (
 .ret))}

def z6X:List z1d:=
 [
 ⟨some 3,none,.fieldAddr 0 (.s 1)⟩,
 ⟨some 4,none,.load none (some 1) false (.s 3)⟩,
 ⟨some 5,none,.call 295 [(.s 4),(.c (i64 1)),(.c (i64 2147483647))] []⟩,
 ⟨some 6,none,.mv false (.s 5)⟩]
def z8U:List z1d:=
 [
 ⟨some 7,(some (6,true)),.fieldAddr 5 (.s 1)⟩,
 ⟨some 8,(some (6,true)),.load none (some 1) false (.s 7)⟩,
 ⟨some 9,(some (6,true)),.call 295 [(.s 8),(.c (i64 1)),(.c (i64 2147483647))] []⟩,
 ⟨some 10,none,.pick (.s 6) (.s 9) (.c (bo false))⟩,
 ⟨some 11,none,.mv false (.s 10)⟩]
def z5V:List z1d:=
 [
 ⟨some 12,(some (11,true)),.fieldAddr 6 (.s 1)⟩,
 ⟨some 13,(some (11,true)),.load none (some 1) false (.s 12)⟩,
 ⟨some 14,(some (11,true)),.call 295 [(.s 13),(.c (i64 0)),(.c (i64 2147483647))] []⟩,
 ⟨some 15,none,.pick (.s 11) (.s 14) (.c (bo false))⟩,
 ⟨some 16,none,.mv false (.s 15)⟩]
def z8X:List z1d:=
 [
 ⟨some 17,(some (16,true)),.fieldAddr 1 (.s 1)⟩,
 ⟨some 18,(some (16,true)),.load none (some 1) false (.s 17)⟩,
 ⟨some 19,(some (16,true)),.call 295 [(.s 18),(.c (i64 0)),(.c (i64 31))] []⟩,
 ⟨some 20,none,.pick (.s 16) (.s 19) (.c (bo false))⟩,
 ⟨some 21,none,.mv false (.s 20)⟩]
def z3X:List z1d:=
 [
 ⟨some 22,(some (21,true)),.fieldAddr 2 (.s 1)⟩,
 ⟨some 23,(some (21,true)),.load none (some 1) false (.s 22)⟩,
 ⟨some 24,(some (21,true)),.bin .andNot (.s 23) (.c (i64 956))⟩,
 ⟨some 25,(some (21,true)),.bin .eql (.s 24) (.c (i64 0))⟩,
 ⟨some 26,none,.pick (.s 21) (.s 25) (.c (bo false))⟩,
 ⟨some 27,none,.mv false (.s 26)⟩]
def z8W:List z1d:=
 [
 ⟨some 28,(some (27,true)),.fieldAddr 3 (.s 1)⟩,
 ⟨some 29,(some (27,true)),.load none (some 1) false (.s 28)⟩,
 ⟨some 30,(some (27,true)),.fieldAddr 4 (.s 1)⟩,
 ⟨some 31,(some (27,true)),.load none (some 1) false (.s 30)⟩,
 ⟨some 32,(some (27,true)),.call 295 [(.s 29),(.c (i64 0)),(.s 31)] []⟩,
 ⟨some 33,none,.pick (.s 27) (.s 32) (.c (bo false))⟩,
 ⟨some 34,none,.mv false (.s 33)⟩]
def z8H:List z1d:=
 [
 ⟨some 35,(some (34,true)),.fieldAddr 4 (.s 1)⟩,
 ⟨some 36,(some (34,true)),.load none (some 1) false (.s 35)⟩,
 ⟨some 37,(some (34,true)),.call 295 [(.s 36),(.c (i64 0)),(.c (i64 1099511627776))] []⟩,
 ⟨some 38,none,.pick (.s 34) (.s 37) (.c (bo false))⟩,
 ⟨some 2,none,.mv false (.s 38)⟩]
def z9m:z2t:=
 {n:=1,wr:=[],res:=[.t 2],body:=
 .seq (
 .region [1] [.norm [1]] [
 ⟨some 1,none,.box 1 (some 24) false (.s 0)⟩,
 ⟨some 2,none,.mv false (.c (bo false))⟩]) (
 .seq (
 .region [2] [.norm [1]] (z6X++(z8U++(z5V++(z8X++(z3X++(z8W++(z8H)))))))) (
 .ret))}

def z0b:z2t:=
 {n:=2,wr:=[],res:=[.t 4],body:=
 .seq (
 .region [] [] [
 ⟨some 4,none,.mv false (.c (bo false))⟩]) (
 .seq (
 .region [4] [] [
 ⟨some 5,none,.mv false (.s 0)⟩,
 ⟨some 6,none,.mv false (.s 1)⟩,
 ⟨some 7,none,.call 313 [(.s 5),(.s 6)] []⟩,
 ⟨some 8,none,.bin .geq (.s 7) (.c (i64 0))⟩,
 ⟨some 4,none,.mv false (.s 8)⟩]) (
 .ret))}

def z2m:z2t:=
 {n:=2,wr:=[],res:=[.t 3],body:=
 .seq (
 .region [2] [.norm [2]] [
 ⟨some 2,none,.box 2 (some 24) false (.s 0)⟩,
 ⟨some 3,none,.mv false (.c (bo false))⟩]) (
 .seq (
 .region [3] [.norm [2]] [
 ⟨some 4,none,.load none none false (.s 1)⟩,
 ⟨some 5,none,.load (some 24) (some 2) false (.s 2)⟩,
 ⟨some 6,none,.callv 296 (.s 4) [(.s 5)] []⟩,
 ⟨some 7,none,.un .not (.s 6)⟩,
 ⟨some 3,none,.mv false (.s 7)⟩]) (
 .ret))}

def z1v:z4a:=
 .seq (
 .block 1 (
 .seq (
 .region [5,12,13] [] [
 ⟨some 15,none,.mv false (.s 13)⟩,
 ⟨some 5,none,.mv false (.s 15)⟩]) (
 .seq (
 .region [12,13,24] [] [
 ⟨some 16,none,.mv false (.s 0)⟩,
 ⟨some 17,none,.mv false (.s 5)⟩,
 ⟨some 18,none,.idxSl 24 (.s 16) (.s 17)⟩,
 ⟨some 19,none,.load (some 24) none false (.s 18)⟩,
 ⟨some 20,none,.mv false (.s 1)⟩,
 ⟨some 21,none,.mv false (.s 5)⟩,
 ⟨some 22,none,.idxSl 24 (.s 20) (.s 21)⟩,
 ⟨some 23,none,.load (some 24) none false (.s 22)⟩,
 ⟨some 24,none,.eqF kM true (.s 19) (.s 23)⟩]) (
 .cond (.s 24) (
 .seq (
 .region [4] [] [
 ⟨some 4,none,.mv false (.c (bo false))⟩]) (
 .ret)) (
 .ghost (.keep [12,13]) .skip))))) (
 .region [12,13] [] [
 ⟨some 25,none,.bin .add (.s 13) (.c (i64 1))⟩,
 ⟨some 13,none,.mv false (.s 25)⟩])
def z5p:z4a:=
 .seq (
 .region [12,13,14] [] [
 ⟨some 14,none,.bin .lss (.s 13) (.s 12)⟩]) (
 .seq (
 .cond (.s 14) (
 .ghost (.keep [12,13]) .skip) (
 .ghost (.keep []) (.exit 0))) (
 z1v))
def z9I:z4a:=
 .seq (
 .region [4] [] [
 ⟨some 4,none,.mv false (.c (bo true))⟩]) (
 .ret)
def z2v:z4a:=
 .seq (
 .seq (
 .region [12,13] [] [
 ⟨some 11,none,.mv false (.s 0)⟩,
 ⟨some 12,none,.len false (.s 11)⟩,
 ⟨some 13,none,.mv false (.c (i64 0))⟩]) (
 .block 0 (
 .loop z5p))) (
 z9I)
def z4g:z2t:=
 {n:=2,wr:=[],res:=[.t 4],body:=
 .seq (
 .region [] [] [
 ⟨some 4,none,.mv false (.c (bo false))⟩]) (
 .seq (
 .seq (
 .region [10] [] [
 ⟨some 6,none,.mv false (.s 0)⟩,
 ⟨some 7,none,.len false (.s 6)⟩,
 ⟨some 8,none,.mv false (.s 1)⟩,
 ⟨some 9,none,.len false (.s 8)⟩,
 ⟨some 10,none,.bin .neq (.s 7) (.s 9)⟩]) (
 .cond (.s 10) (
 .seq (
 .region [4] [] [
 ⟨some 4,none,.mv false (.c (bo false))⟩]) (
 .ret)) (
 .ghost (.keep []) .skip))) (
 z2v))}

def z8h:z4a:=
 .seq (
 .block 1 (
 .seq (
 .region [5,7,8] [] [
 ⟨some 10,none,.mv false (.s 8)⟩,
 ⟨some 5,none,.mv false (.s 10)⟩]) (
 .seq (
 .region [5,7,8,16] [] [
 ⟨some 11,none,.mv false (.s 1)⟩,
 ⟨some 12,none,.mv false (.s 0)⟩,
 ⟨some 13,none,.mv false (.s 5)⟩,
 ⟨some 14,none,.idxSl 24 (.s 12) (.s 13)⟩,
 ⟨some 15,none,.load (some 24) none false (.s 14)⟩,
 ⟨some 16,none,.callv 297 (.s 11) [(.s 15)] []⟩]) (
 .cond (.s 16) (
 .seq (
 .region [4] [] [
 ⟨some 17,none,.mv false (.s 5)⟩,
 ⟨some 4,none,.mv false (.s 17)⟩]) (
 .ret)) (
 .ghost (.keep [7,8]) .skip))))) (
 .region [7,8] [] [
 ⟨some 18,none,.bin .add (.s 8) (.c (i64 1))⟩,
 ⟨some 8,none,.mv false (.s 18)⟩])
def z7e:z4a:=
 .seq (
 .region [7,8,9] [] [
 ⟨some 9,none,.bin .lss (.s 8) (.s 7)⟩]) (
 .seq (
 .cond (.s 9) (
 .ghost (.keep [7,8]) .skip) (
 .ghost (.keep []) (.exit 0))) (
 z8h))
def z9l:z4a:=
 .seq (
 .region [4] [] [
 ⟨some 4,none,.mv false (.c (i64 (-1)))⟩]) (
 .ret)
def z5b:z2t:=
 {n:=2,wr:=[],res:=[.t 4],body:=
 .seq (
 .region [] [] [
 ⟨some 4,none,.mv false (.c (i64 0))⟩]) (
 .seq (
 .seq (
 .region [7,8] [] [
 ⟨some 6,none,.mv false (.s 0)⟩,
 ⟨some 7,none,.len false (.s 6)⟩,
 ⟨some 8,none,.mv false (.c (i64 0))⟩]) (
 .block 0 (
 .loop z7e))) (
 z9l))}

def z0i:z4a:=
 .seq (
 .block 1 (
 .seq (
 .region [5,7,8] [] [
 ⟨some 10,none,.mv false (.s 8)⟩,
 ⟨some 5,none,.mv false (.s 10)⟩]) (
 .seq (
 .region [5,7,8,16] [] [
 ⟨some 11,none,.mv false (.s 1)⟩,
 ⟨some 12,none,.mv false (.s 0)⟩,
 ⟨some 13,none,.mv false (.s 5)⟩,
 ⟨some 14,none,.idxSl 24 (.s 12) (.s 13)⟩,
 ⟨some 15,none,.load (some 24) none false (.s 14)⟩,
 ⟨some 16,none,.callv 305 (.s 11) [(.s 15)] []⟩]) (
 .cond (.s 16) (
 .seq (
 .region [4] [] [
 ⟨some 17,none,.mv false (.s 5)⟩,
 ⟨some 4,none,.mv false (.s 17)⟩]) (
 .ret)) (
 .ghost (.keep [7,8]) .skip))))) (
 .region [7,8] [] [
 ⟨some 18,none,.bin .add (.s 8) (.c (i64 1))⟩,
 ⟨some 8,none,.mv false (.s 18)⟩])
def z8e:z4a:=
 .seq (
 .region [7,8,9] [] [
 ⟨some 9,none,.bin .lss (.s 8) (.s 7)⟩]) (
 .seq (
 .cond (.s 9) (
 .ghost (.keep [7,8]) .skip) (
 .ghost (.keep []) (.exit 0))) (
 z0i))
def z8l:z4a:=
 .seq (
 .region [4] [] [
 ⟨some 4,none,.mv false (.c (i64 (-1)))⟩]) (
 .ret)
def z4b:z2t:=
 {n:=2,wr:=[],res:=[.t 4],body:=
 .seq (
 .region [] [] [
 ⟨some 4,none,.mv false (.c (i64 0))⟩]) (
 .seq (
 .seq (
 .region [7,8] [] [
 ⟨some 6,none,.mv false (.s 0)⟩,
 ⟨some 7,none,.len false (.s 6)⟩,
 ⟨some 8,none,.mv false (.c (i64 0))⟩]) (
 .block 0 (
 .loop z8e))) (
 z8l))}

def z9h:z4a:=
 .seq (
 .block 1 (
 .seq (
 .region [5,7,8] [] [
 ⟨some 10,none,.mv false (.s 8)⟩,
 ⟨some 5,none,.mv false (.s 10)⟩]) (
 .seq (
 .region [5,7,8,16] [] [
 ⟨some 11,none,.mv false (.s 1)⟩,
 ⟨some 12,none,.mv false (.s 0)⟩,
 ⟨some 13,none,.mv false (.s 5)⟩,
 ⟨some 14,none,.idxSl 24 (.s 12) (.s 13)⟩,
 ⟨some 15,none,.load (some 24) none false (.s 14)⟩,
 ⟨some 16,none,.callv 308 (.s 11) [(.s 15)] []⟩]) (
 .cond (.s 16) (
 .seq (
 .region [4] [] [
 ⟨some 17,none,.mv false (.s 5)⟩,
 ⟨some 4,none,.mv false (.s 17)⟩]) (
 .ret)) (
 .ghost (.keep [7,8]) .skip))))) (
 .region [7,8] [] [
 ⟨some 18,none,.bin .add (.s 8) (.c (i64 1))⟩,
 ⟨some 8,none,.mv false (.s 18)⟩])
def z6e:z4a:=
 .seq (
 .region [7,8,9] [] [
 ⟨some 9,none,.bin .lss (.s 8) (.s 7)⟩]) (
 .seq (
 .cond (.s 9) (
 .ghost (.keep [7,8]) .skip) (
 .ghost (.keep []) (.exit 0))) (
 z9h))
def z0m:z4a:=
 .seq (
 .region [4] [] [
 ⟨some 4,none,.mv false (.c (i64 (-1)))⟩]) (
 .ret)
def z3b:z2t:=
 {n:=2,wr:=[],res:=[.t 4],body:=
 .seq (
 .region [] [] [
 ⟨some 4,none,.mv false (.c (i64 0))⟩]) (
 .seq (
 .seq (
 .region [7,8] [] [
 ⟨some 6,none,.mv false (.s 0)⟩,
 ⟨some 7,none,.len false (.s 6)⟩,
 ⟨some 8,none,.mv false (.c (i64 0))⟩]) (
 .block 0 (
 .loop z6e))) (
 z0m))}

def z6m:z2t:=
 {n:=2,wr:=[],res:=[.t 3],body:=
 .seq (
 .region [2] [.norm [2]] [
 ⟨some 2,none,.box 2 (some 24) false (.s 0)⟩,
 ⟨some 3,none,.mv false (.c (bo false))⟩]) (
 .seq (
 .region [3] [.norm [2]] [
 ⟨some 4,none,.fieldAddr 0 (.s 2)⟩,
 ⟨some 5,none,.load none (some 2) false (.s 4)⟩,
 ⟨some 6,none,.load none none false (.s 1)⟩,
 ⟨some 7,none,.bin .eql (.s 5) (.s 6)⟩,
 ⟨some 3,none,.mv false (.s 7)⟩]) (
 .ret))}

def z8m:z2t:=
 {n:=2,wr:=[],res:=[.t 3],body:=
 .seq (
 .region [2] [.norm [2]] [
 ⟨some 2,none,.box 2 (some 24) false (.s 0)⟩,
 ⟨some 3,none,.mv false (.c (bo false))⟩]) (
 .seq (
 .region [3] [.norm [2]] [
 ⟨some 4,none,.fieldAddr 0 (.s 2)⟩,
 ⟨some 5,none,.load none (some 2) false (.s 4)⟩,
 ⟨some 6,none,.fieldAddr 4 (.s 1)⟩,
 ⟨some 7,none,.fieldAddr 1 (.s 6)⟩,
 ⟨some 8,none,.load none none false (.s 7)⟩,
 ⟨some 9,none,.bin .eql (.s 5) (.s 8)⟩,
 ⟨some 3,none,.mv false (.s 9)⟩]) (
 .ret))}

def z7j:z2t:=
 {n:=2,wr:=[],res:=[.t 4],body:=
 .seq (
 .region [] [] [
 ⟨some 4,none,.mv false (.c (bo false))⟩]) (
 .seq (
 .region [4] [] [
 ⟨some 5,none,.mv false (.s 0)⟩,
 ⟨some 6,none,.mv false (.s 1)⟩,
 ⟨some 7,none,.call 314 [(.s 5),(.s 6)] []⟩,
 ⟨some 8,none,.bin .geq (.s 7) (.c (i64 0))⟩,
 ⟨some 4,none,.mv false (.s 8)⟩]) (
 .ret))}

def z2L:z4a:=
 .seq (
 .block 1 (
 .seq (
 .region [5,7,8] [] [
 ⟨some 10,none,.mv false (.s 8)⟩,
 ⟨some 5,none,.mv false (.s 10)⟩]) (
 .seq (
 .region [5,7,8,16] [] [
 ⟨some 11,none,.mv false (.s 1)⟩,
 ⟨some 12,none,.mv false (.s 0)⟩,
 ⟨some 13,none,.mv false (.s 5)⟩,
 ⟨some 14,none,.idxSl 1 (.s 12) (.s 13)⟩,
 ⟨some 15,none,.load none none false (.s 14)⟩,
 ⟨some 16,none,.bin .eql (.s 11) (.s 15)⟩]) (
 .cond (.s 16) (
 .seq (
 .region [4] [] [
 ⟨some 17,none,.mv false (.s 5)⟩,
 ⟨some 4,none,.mv false (.s 17)⟩]) (
 .ret)) (
 .ghost (.keep [7,8]) .skip))))) (
 .region [7,8] [] [
 ⟨some 18,none,.bin .add (.s 8) (.c (i64 1))⟩,
 ⟨some 8,none,.mv false (.s 18)⟩])
def z4z:z4a:=
 .seq (
 .region [7,8,9] [] [
 ⟨some 9,none,.bin .lss (.s 8) (.s 7)⟩]) (
 .seq (
 .cond (.s 9) (
 .ghost (.keep [7,8]) .skip) (
 .ghost (.keep []) (.exit 0))) (
 z2L))
def z70:z4a:=
 .seq (
 .region [4] [] [
 ⟨some 4,none,.mv false (.c (i64 (-1)))⟩]) (
 .ret)
def z8o:z2t:=
 {n:=2,wr:=[],res:=[.t 4],body:=
 .seq (
 .region [] [] [
 ⟨some 4,none,.mv false (.c (i64 0))⟩]) (
 .seq (
 .seq (
 .region [7,8] [] [
 ⟨some 6,none,.mv false (.s 0)⟩,
 ⟨some 7,none,.len false (.s 6)⟩,
 ⟨some 8,none,.mv false (.c (i64 0))⟩]) (
 .block 0 (
 .loop z4z))) (
 z70))}

end Go.Abs
end

section
namespace Go.Abs
set_option maxRecDepth 100000
end Go.Abs
end

section
namespace Go.Abs
set_option maxRecDepth 100000
def z2H:z4a:=
 .seq (
  .region [0,1,2,7,8] [] [
   ⟨(some 18),none,.mv false (.s 0)⟩,
   ⟨(some 19),none,.len false (.s 18)⟩,
   ⟨(some 7),none,.mv false (.s 19)⟩]) (
 .seq (
  .region [0,7,8] [.norm [500000]] [
   ⟨(some 20),none,.mv false (.s 0)⟩,
   ⟨(some 21),none,.mv false (.s 1)⟩,
   ⟨(some 22),none,.slSl 24 (.s 20) none (some (.s 21)) none⟩,
   ⟨(some 23),none,.mv false (.s 0)⟩,
   ⟨(some 24),none,.mv false (.s 2)⟩,
   ⟨(some 25),none,.slSl 24 (.s 23) (some (.s 24)) none none⟩,
   ⟨(some 26),none,.appendB 24 80 false 500000 (some 500000) (.s 22) (.s 25)⟩,
   ⟨(some 0),none,.mv false (.s 26)⟩]) (
 .seq (
  .region [0,8] [.norm [500000]] [
   ⟨(some 27),none,.mv false (.s 0)⟩,
   ⟨(some 28),none,.mv false (.s 0)⟩,
   ⟨(some 29),none,.len false (.s 28)⟩,
   ⟨(some 30),none,.mv false (.s 7)⟩,
   ⟨(some 31),none,.slCap 24 (.s 27) (.s 29) (.s 30)⟩,
   ⟨none,none,.clearB 24 500000 (.s 31)⟩]) (
 .seq (
  .region [0,6,8] [] [
   ⟨(some 32),none,.mv false (.s 0)⟩,
   ⟨(some 6),none,.mv false (.s 32)⟩]) (
 .ret))))
def z9i:z2t:=
 {n:=3,wr:=[],res:=[.t 6],body:=
  .seq (
   .region [0,1,2] [] [
    ⟨(some 6),none,.mv true (.c (.sl (.own 24) none 0 []))⟩]) (
  .seq (
   .region [0,1,2,8] [] [
    ⟨(some 8),none,.mv false (.s 0)⟩,
    ⟨(some 9),none,.mv false (.s 1)⟩,
    ⟨(some 10),none,.mv false (.s 2)⟩,
    ⟨(some 11),none,.mv false (.s 0)⟩,
    ⟨(some 12),none,.len false (.s 11)⟩,
    ⟨(some 13),none,.slSl 24 (.s 8) (some (.s 9)) (some (.s 10)) (some (.s 12))⟩]) (
  .seq (
   .seq (
    .region [0,1,2,8,16] [] [
     ⟨(some 14),none,.mv false (.s 1)⟩,
     ⟨(some 15),none,.mv false (.s 2)⟩,
     ⟨(some 16),none,.bin .eql (.s 14) (.s 15)⟩]) (
   .cond (.s 16) (
    .seq (
     .region [0,6] [] [
      ⟨(some 17),none,.mv false (.s 0)⟩,
      ⟨(some 6),none,.mv false (.s 17)⟩]) (
    .ret)) (
    .ghost (.keep [0,1,2,8]) .skip))) (
  .holdc 0 8 z2H)))}

def z9ja:z4a:=
 .bad
def z21:z4a:=
 .seq (
  .block 2 (
   .seq (
    .region [4,6,8,39,40,41] [.norm [4,6,8]] [
     ⟨(some 43),none,.idxSl 1 (.s 39) (.s 41)⟩,
     ⟨(some 44),none,.load none none false (.s 43)⟩,
     ⟨(some 8),none,.alloc 8 [i64 0]⟩,
     ⟨none,none,.store none 8 false (.s 8) (.s 44)⟩]) (
   .seq (
    .region [4,6,9,39,40,41] [.norm [4,6,8]] [
     ⟨(some 45),none,.fieldAddr 4 (.s 6)⟩,
     ⟨(some 46),none,.load none (some 6) false (.s 45)⟩,
     ⟨(some 47),none,.mkfn 305 [] [(.s 8)]⟩,
     ⟨(some 48),none,.call 306 [(.s 46),(.s 47)] [8]⟩,
     ⟨(some 9),none,.mv false (.s 48)⟩]) (
   .seq (
    .seq (
     .region [4,6,9,39,40,41,50] [] [
      ⟨(some 49),none,.mv false (.s 9)⟩,
      ⟨(some 50),none,.bin .lss (.s 49) (.c (i64 0))⟩]) (
    .cond (.s 50) (
     .seq (
      .region [4,5] [.norm [4,6,8]] [
       ⟨(some 51),none,.build [i64 0,i64 0,i64 0,i64 0,.sl .plain none 0 []] []⟩,
       ⟨none,none,.store (some 5) 4 false (.s 4) (.s 51)⟩,
       ⟨(some 5),none,.mv false (.c (i64 7))⟩]) (
     .ret)) (
     .ghost (.keep [4,6,9,39,40,41]) .skip))) (
   z9ja))))) (
 .region [4,6,39,40,41] [.drop [8]] [
  ⟨(some 59),none,.bin .add (.s 41) (.c (i64 1))⟩,
  ⟨(some 41),none,.mv false (.s 59)⟩])
def z4L:z4a:=
 .seq (
  .region [4,6,39,40,41,42] [] [
   ⟨(some 42),none,.bin .lss (.s 41) (.s 40)⟩]) (
 .seq (
  .cond (.s 42) (
   .ghost (.keep [4,6,39,40,41]) .skip) (
   .ghost (.keep [4,6]) (.exit 1))) (
 z21))
def z9ka:z4a:=
 .bad
def z23:z4a:=
 .seq (
  .region [4,6,12,80,81,82] [.norm [4,6,8,12]] [
   ⟨(some 92),none,.fieldAddr 3 (.s 6)⟩,
   ⟨(some 93),none,.load none (some 6) false (.s 92)⟩,
   ⟨(some 94),none,.bin .add (.s 93) (.c (i64 1))⟩,
   ⟨(some 95),none,.fieldAddr 3 (.s 6)⟩,
   ⟨none,none,.store none 6 false (.s 95) (.s 94)⟩]) (
 .region [4,6,80,81,82] [.norm [4,6,8,12]] [
  ⟨(some 96),none,.fieldAddr 4 (.s 6)⟩,
  ⟨(some 97),none,.load none (some 6) true (.s 96)⟩,
  ⟨(some 98),none,.load (some 24) (some 12) false (.s 12)⟩,
  ⟨(some 99),none,.buildSl 24 1 [i64 0,i64 0,i64 0,i64 0,i64 0,i64 0,i64 0,bo false,u8 0,u8 0,u8 0,u8 0,u8 0,u8 0,u8 0,u8 0,u8 0,u8 0,u8 0,u8 0,u8 0,u8 0,u8 0,u8 0] [(0,24,(.s 98))]⟩,
  ⟨(some 100),none,.append 24 80 false none none 97 (.s 99)⟩,
  ⟨(some 101),none,.fieldAddr 4 (.s 6)⟩,
  ⟨none,none,.store none 6 true (.s 101) (.s 100)⟩])
def z4J:z4a:=
 .seq (
  .block 4 (
   .seq (
    .region [4,6,12,80,81,82] [.norm [4,6,8,12]] [
     ⟨(some 84),none,.idxSl 24 (.s 80) (.s 82)⟩,
     ⟨(some 85),none,.load (some 24) none false (.s 84)⟩,
     ⟨(some 12),none,.alloc 12 (List.replicate 7 (i64 0)++[bo false]++bys (z4c 16))⟩,
     ⟨none,none,.store (some 24) 12 false (.s 12) (.s 85)⟩]) (
   .seq (
    .seq (
     .region [4,6,12,80,81,82,90] [.norm [4,6,8,12]] [
      ⟨(some 86),none,.fieldAddr 0 (.s 12)⟩,
      ⟨(some 87),none,.load none (some 12) false (.s 86)⟩,
      ⟨(some 88),none,.fieldAddr 3 (.s 6)⟩,
      ⟨(some 89),none,.load none (some 6) false (.s 88)⟩,
      ⟨(some 90),none,.bin .neq (.s 87) (.s 89)⟩]) (
    .cond (.s 90) (
     .seq (
      .region [4,5] [.norm [4,6,8,12]] [
       ⟨(some 91),none,.build [i64 0,i64 0,i64 0,i64 0,.sl .plain none 0 []] []⟩,
       ⟨none,none,.store (some 5) 4 false (.s 4) (.s 91)⟩,
       ⟨(some 5),none,.mv false (.c (i64 7))⟩]) (
     .ret)) (
     .ghost (.keep [4,6,12,80,81,82]) .skip))) (
   z23)))) (
 .region [4,6,80,81,82] [.drop [12]] [
  ⟨(some 102),none,.bin .add (.s 82) (.c (i64 1))⟩,
  ⟨(some 82),none,.mv false (.s 102)⟩])
def z3z:z4a:=
 .seq (
  .region [4,6,80,81,82,83] [] [
   ⟨(some 83),none,.bin .lss (.s 82) (.s 81)⟩]) (
 .seq (
  .cond (.s 83) (
   .ghost (.keep [4,6,80,81,82]) .skip) (
   .ghost (.keep [4,6]) (.exit 3))) (
 z4J))
def z32:z4a:=
 .seq (
  .region [4,5] [.norm [4,6,8,12]] [
   ⟨(some 107),none,.load (some 5) (some 6) false (.s 6)⟩,
   ⟨none,none,.store (some 5) 4 false (.s 4) (.s 107)⟩,
   ⟨(some 5),none,.mv false (.c (i64 0))⟩]) (
 .ret)
def z1L:z4a:=
 .seq (
  .seq (
   .region [4,6,105] [.norm [4,6,8,12],.reB 6 4 none,.norm [4,6,8,12]] [
    ⟨(some 103),none,.fieldAddr 3 (.s 6)⟩,
    ⟨(some 104),none,.load none (some 6) false (.s 103)⟩,
    ⟨(some 105),none,.bin .gtr (.s 104) (.c (i64 2147483647))⟩]) (
  .cond (.s 105) (
   .seq (
    .region [4,5] [.norm [4,6,8,12]] [
     ⟨(some 106),none,.build [i64 0,i64 0,i64 0,i64 0,.sl .plain none 0 []] []⟩,
     ⟨none,none,.store (some 5) 4 false (.s 4) (.s 106)⟩,
     ⟨(some 5),none,.mv false (.c (i64 2))⟩]) (
   .ret)) (
   .ghost (.keep [4,6]) .skip))) (
 z32)
def z0p:z4a:=
 .seq (
  .seq (
   .region [4,6,80,81,82] [.norm [4,6,8]] [
    ⟨(some 79),none,.fieldAddr 28 (.s 3)⟩,
    ⟨(some 80),none,.load none none false (.s 79)⟩,
    ⟨(some 81),none,.len false (.s 80)⟩,
    ⟨(some 82),none,.mv false (.c (i64 0))⟩]) (
  .block 3 (
   .loop z3z))) (
 z1L)
def z40:z4a:=
 .seq (
  .seq (
   .region [4,6,62] [.norm [4,6,8]] [
    ⟨(some 60),none,.fieldAddr 1 (.s 3)⟩,
    ⟨(some 61),none,.load none none false (.s 60)⟩,
    ⟨(some 62),none,.bin .eql (.s 61) (.c (i64 13))⟩]) (
  .cond (.s 62) (
   .seq (
    .region [4,6,10] [.norm [4,6,8]] [
     ⟨(some 63),none,.fieldAddr 4 (.s 6)⟩,
     ⟨(some 64),none,.load none (some 6) false (.s 63)⟩,
     ⟨(some 65),none,.mkfn 308 [] [(.s 3)]⟩,
     ⟨(some 66),none,.call 309 [(.s 64),(.s 65)] []⟩,
     ⟨(some 10),none,.mv false (.s 66)⟩]) (
   .seq (
    .seq (
     .region [4,6,10,68] [] [
      ⟨(some 67),none,.mv false (.s 10)⟩,
      ⟨(some 68),none,.bin .lss (.s 67) (.c (i64 0))⟩]) (
    .cond (.s 68) (
     .seq (
      .region [4,5] [.norm [4,6,8]] [
       ⟨(some 69),none,.build [i64 0,i64 0,i64 0,i64 0,.sl .plain none 0 []] []⟩,
       ⟨none,none,.store (some 5) 4 false (.s 4) (.s 69)⟩,
       ⟨(some 5),none,.mv false (.c (i64 7))⟩]) (
     .ret)) (
     .ghost (.keep [4,6,10]) .skip))) (
   z9ka))) (
   .ghost (.keep [4,6]) .skip))) (
 z0p)
def z1X:z4a:=
 .region [4,6,39,40,41] [.norm [4,6,8,500006]] [
  ⟨(some 52),none,.fieldAddr 4 (.s 6)⟩,
  ⟨(some 53),none,.load none (some 6) false (.s 52)⟩,
  ⟨(some 54),none,.mv false (.s 9)⟩,
  ⟨(some 55),none,.mv false (.s 9)⟩,
  ⟨(some 56),none,.bin .add (.s 55) (.c (i64 1))⟩,
  ⟨(some 57),none,.callw 307 none [(.s 53),(.s 54),(.s 56)] [(500000,500006)] []⟩,
  ⟨(some 58),none,.fieldAddr 4 (.s 6)⟩,
  ⟨none,none,.store none 6 true (.s 58) (.s 57)⟩]
def z4I:z4a:=
 .seq (
  .block 2 (
   .seq (
    .region [4,6,8,39,40,41] [.norm [4,6,8,500006]] [
     ⟨(some 43),none,.idxSl 1 (.s 39) (.s 41)⟩,
     ⟨(some 44),none,.load none none false (.s 43)⟩,
     ⟨(some 8),none,.alloc 8 [i64 0]⟩,
     ⟨none,none,.store none 8 false (.s 8) (.s 44)⟩]) (
   .seq (
    .region [4,6,9,39,40,41] [.norm [4,6,8,500006]] [
     ⟨(some 45),none,.fieldAddr 4 (.s 6)⟩,
     ⟨(some 46),none,.load none (some 6) false (.s 45)⟩,
     ⟨(some 47),none,.mkfn 305 [] [(.s 8)]⟩,
     ⟨(some 48),none,.call 306 [(.s 46),(.s 47)] [8,500006]⟩,
     ⟨(some 9),none,.mv false (.s 48)⟩]) (
   .seq (
    .seq (
     .region [4,6,9,39,40,41,50] [] [
      ⟨(some 49),none,.mv false (.s 9)⟩,
      ⟨(some 50),none,.bin .lss (.s 49) (.c (i64 0))⟩]) (
    .cond (.s 50) (
     .seq (
      .region [4,5] [.norm [4,6,8,500006]] [
       ⟨(some 51),none,.build [i64 0,i64 0,i64 0,i64 0,.sl .plain none 0 []] []⟩,
       ⟨none,none,.store (some 5) 4 false (.s 4) (.s 51)⟩,
       ⟨(some 5),none,.mv false (.c (i64 7))⟩]) (
     .ret)) (
     .ghost (.keep [4,6,9,39,40,41]) .skip))) (
   z1X))))) (
 .region [4,6,39,40,41] [.drop [8]] [
  ⟨(some 59),none,.bin .add (.s 41) (.c (i64 1))⟩,
  ⟨(some 41),none,.mv false (.s 59)⟩])
def z6w:z4a:=
 .seq (
  .region [4,6,39,40,41,42] [] [
   ⟨(some 42),none,.bin .lss (.s 41) (.s 40)⟩]) (
 .seq (
  .cond (.s 42) (
   .ghost (.keep [4,6,39,40,41]) .skip) (
   .ghost (.keep [4,6]) (.exit 1))) (
 z4I))
def z7X:z4a:=
 .region [4,6] [.norm [4,6,8,500006]] [
  ⟨(some 70),none,.fieldAddr 4 (.s 6)⟩,
  ⟨(some 71),none,.load none (some 6) false (.s 70)⟩,
  ⟨(some 72),none,.mv false (.s 10)⟩,
  ⟨(some 73),none,.idxSl 24 (.s 71) (.s 72)⟩,
  ⟨(some 74),none,.fieldAddr 2 (.s 73)⟩,
  ⟨(some 75),none,.load none (some 500006) false (.s 74)⟩,
  ⟨(some 76),none,.bin .and (.s 75) (.c (i64 176))⟩,
  ⟨(some 77),none,.idxSl 24 (.s 71) (.s 72)⟩,
  ⟨(some 78),none,.fieldAddr 2 (.s 77)⟩,
  ⟨none,none,.store none 500006 false (.s 78) (.s 76)⟩]
def z8V:z4a:=
 .seq (
  .seq (
   .region [4,6,62] [.norm [4,6,8,500006]] [
    ⟨(some 60),none,.fieldAddr 1 (.s 3)⟩,
    ⟨(some 61),none,.load none none false (.s 60)⟩,
    ⟨(some 62),none,.bin .eql (.s 61) (.c (i64 13))⟩]) (
  .cond (.s 62) (
   .seq (
    .region [4,6,10] [.norm [4,6,8,500006]] [
     ⟨(some 63),none,.fieldAddr 4 (.s 6)⟩,
     ⟨(some 64),none,.load none (some 6) false (.s 63)⟩,
     ⟨(some 65),none,.mkfn 308 [] [(.s 3)]⟩,
     ⟨(some 66),none,.call 309 [(.s 64),(.s 65)] [500006]⟩,
     ⟨(some 10),none,.mv false (.s 66)⟩]) (
   .seq (
    .seq (
     .region [4,6,10,68] [] [
      ⟨(some 67),none,.mv false (.s 10)⟩,
      ⟨(some 68),none,.bin .lss (.s 67) (.c (i64 0))⟩]) (
    .cond (.s 68) (
     .seq (
      .region [4,5] [.norm [4,6,8,500006]] [
       ⟨(some 69),none,.build [i64 0,i64 0,i64 0,i64 0,.sl .plain none 0 []] []⟩,
       ⟨none,none,.store (some 5) 4 false (.s 4) (.s 69)⟩,
       ⟨(some 5),none,.mv false (.c (i64 7))⟩]) (
     .ret)) (
     .ghost (.keep [4,6,10]) .skip))) (
   z7X))) (
   .ghost (.keep [4,6]) .skip))) (
 .ghost (.norm [4,6,8,500006]) (.ghost (.coolB 6 4 500006) (.ghost (.norm [4,6,8,500006]) (.ghost (.drop [500006]) z0p))))
def z71:z4a:=
 .seq (
  .seq (
   .region [4,6,39,40,41] [.norm [4,6]] [
    ⟨(some 38),none,.fieldAddr 29 (.s 3)⟩,
    ⟨(some 39),none,.load none none false (.s 38)⟩,
    ⟨(some 40),none,.len false (.s 39)⟩,
    ⟨(some 41),none,.mv false (.c (i64 0))⟩]) (
  .block 1 (
   .loop z4L))) (
 z40)
def z2W:z4a:=
 .seq (
  .seq (
   .region [4,6,39,40,41] [.norm [4,6,500006]] [
    ⟨(some 38),none,.fieldAddr 29 (.s 3)⟩,
    ⟨(some 39),none,.load none none false (.s 38)⟩,
    ⟨(some 40),none,.len false (.s 39)⟩,
    ⟨(some 41),none,.mv false (.c (i64 0))⟩]) (
  .block 1 (
   .loop z6w))) (
 z8V)
def z7Z:z4a:=
 .seq (
  .region [4,6] [.norm [4,6]] [
   ⟨(some 25),none,.fieldAddr 0 (.s 3)⟩,
   ⟨(some 26),none,.load none none false (.s 25)⟩,
   ⟨(some 27),none,.fieldAddr 3 (.s 3)⟩,
   ⟨(some 28),none,.load none none false (.s 27)⟩,
   ⟨(some 29),none,.fieldAddr 2 (.s 2)⟩,
   ⟨(some 30),none,.load none none false (.s 29)⟩,
   ⟨(some 31),none,.bin .add (.s 30) (.c (i64 1))⟩,
   ⟨(some 32),none,.fieldAddr 3 (.s 2)⟩,
   ⟨(some 33),none,.load none none false (.s 32)⟩,
   ⟨(some 34),none,.fieldAddr 4 (.s 2)⟩,
   ⟨(some 35),none,.load none none false (.s 34)⟩,
   ⟨(some 36),none,.call 290 [(.s 35)] []⟩,
   ⟨(some 37),none,.buildO [i64 0,i64 0,i64 0,i64 0,.sl .plain none 0 []] [(0,1,(.s 26)),(1,1,(.s 28)),(2,1,(.s 31)),(3,1,(.s 33))] 4 36⟩,
   ⟨(some 6),none,.alloc 6 ([i64 0,i64 0,i64 0,i64 0]++[.sl (.own 24) none 0 []])⟩,
   ⟨none,none,.storeO 5 6 (.s 6) 37⟩]) (
 .alt (.thawc (some 6) 4 500006 (.ghost (.norm [4,6,500006]) z2W)) z71)
def z4k:z2t:=
 {n:=2,wr:=[],res:=[.cell 4 (some 5) 4,.t 5],body:=
  .seq (
   .region [2,3,4] [.norm [2,3,4],.freeze [2,3],.norm [4],.reB 4 4 none,.norm [4],.rebase [2,3]] [
    ⟨(some 2),none,.box 2 (some 5) false (.s 0)⟩,
    ⟨(some 3),none,.box 3 (some 30) false (.s 1)⟩,
    ⟨(some 4),none,.alloc 4 ([i64 0,i64 0,i64 0,i64 0]++[.sl (.own 24) none 0 []])⟩,
    ⟨(some 5),none,.mv false (.c (i64 0))⟩]) (
  .seq (
   .block 0 (
    .seq (
     .region [4,13] [.norm [4]] [
      ⟨(some 14),none,.load (some 30) none false (.s 3)⟩,
      ⟨(some 15),none,.call 300 [(.s 14)] []⟩,
      ⟨(some 16),none,.un .not (.s 15)⟩,
      ⟨(some 13),none,.mv false (.s 16)⟩]) (
    .cond (.s 13) (
     .seq (
      .region [4,5] [.norm [4]] [
       ⟨(some 17),none,.build [i64 0,i64 0,i64 0,i64 0,.sl .plain none 0 []] []⟩,
       ⟨none,none,.store (some 5) 4 false (.s 4) (.s 17)⟩,
       ⟨(some 5),none,.mv false (.c (i64 1))⟩]) (
     .ret)) (
     .seq (
      .region [4,18] [.norm [4]] [
       ⟨(some 19),none,.fieldAddr 0 (.s 3)⟩,
       ⟨(some 20),none,.load none none false (.s 19)⟩,
       ⟨(some 21),none,.fieldAddr 0 (.s 2)⟩,
       ⟨(some 22),none,.load none none false (.s 21)⟩,
       ⟨(some 23),none,.bin .lss (.s 20) (.s 22)⟩,
       ⟨(some 18),none,.mv false (.s 23)⟩]) (
     .cond (.s 18) (
      .seq (
       .region [4,5] [.norm [4]] [
        ⟨(some 24),none,.build [i64 0,i64 0,i64 0,i64 0,.sl .plain none 0 []] []⟩,
        ⟨none,none,.store (some 5) 4 false (.s 4) (.s 24)⟩,
        ⟨(some 5),none,.mv false (.c (i64 20))⟩]) (
      .ret)) (
      .ghost (.keep [4]) .skip)))))) (
  z7Z))}

end Go.Abs
end
