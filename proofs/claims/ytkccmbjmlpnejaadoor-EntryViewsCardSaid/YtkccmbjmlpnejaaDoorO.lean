/- Lemmas: an abstract interpreter, and what the functions compute. -/
import Derived.Test.YtkccmbjmlpnejaaDoorC
import Derived.Test.YtkccmbjmlpnejaaDoorT
import Derived.Test.YtkccmbjmlpnejaaDoorN
import Derived.Test.YtkccmbjmlpnejaaDoorH
import Derived.Test.YtkccmbjmlpnejaaDoorI
import Derived.Test.YtkccmbjmlpnejaaDoorL
set_option linter.unusedSimpArgs false
set_option linter.unusedVariables false
set_option linter.unusedSectionVars false
section
namespace Go.Abs
set_option maxRecDepth 100000
def z13:z4a:=
 .cond (.s 20) (
 .region [2,4] [.norm [2,13]] [
 ⟨some 21,none,.mv false (.s 5)⟩,
 ⟨some 22,none,.idxSl 1 (.s 21) (.c (i64 0))⟩,
 ⟨some 23,none,.load none none false (.s 22)⟩,
 ⟨some 24,none,.mv false (.s 5)⟩,
 ⟨some 25,none,.idxSl 1 (.s 24) (.c (i64 1))⟩,
 ⟨some 26,none,.load none none false (.s 25)⟩,
 ⟨some 27,none,.mv false (.s 5)⟩,
 ⟨some 28,none,.idxSl 1 (.s 27) (.c (i64 2))⟩,
 ⟨some 29,none,.load none none false (.s 28)⟩,
 ⟨some 30,none,.mv false (.s 5)⟩,
 ⟨some 31,none,.idxSl 1 (.s 30) (.c (i64 3))⟩,
 ⟨some 32,none,.load none none false (.s 31)⟩,
 ⟨some 33,none,.build (List.replicate 10 (i64 0)++[st []]++[.sl .plain none 0 []]++bys (z4c 16)++[.sl .plain (some true) 0 []]++[.sl .plain none 0 []]) [(0,1,(.s 23)),(1,1,(.s 26)),(2,1,(.s 29)),(3,1,(.s 32))]⟩,
 ⟨none,none,.store (some 30) 2 false (.s 2) (.s 33)⟩]) (
 .ghost (.keep [2,4]) .skip)
def z7H:z4a:=
 .cond (.s 53) (
 .ghost (.keep [2,4,7,8]) .skip) (
 .ghost (.keep [2,4]) (.exit 0))
def z0Y:z4a:=
 .cond (.s 70) (
 .region [2,4,7,8] [.norm [2,13]] [
 ⟨some 71,none,.fieldAddr 28 (.s 2)⟩,
 ⟨some 72,none,.load none (some 2) true (.s 71)⟩,
 ⟨some 73,none,.mv false (.s 9)⟩,
 ⟨some 74,none,.idxSl 1 (.s 73) (.c (i64 0))⟩,
 ⟨some 75,none,.load none none false (.s 74)⟩,
 ⟨some 76,none,.mv false (.s 9)⟩,
 ⟨some 77,none,.idxSl 1 (.s 76) (.c (i64 1))⟩,
 ⟨some 78,none,.load none none false (.s 77)⟩,
 ⟨some 79,none,.mv false (.s 9)⟩,
 ⟨some 80,none,.idxSl 1 (.s 79) (.c (i64 2))⟩,
 ⟨some 81,none,.load none none false (.s 80)⟩,
 ⟨some 82,none,.mv false (.s 9)⟩,
 ⟨some 83,none,.idxSl 1 (.s 82) (.c (i64 3))⟩,
 ⟨some 84,none,.load none none false (.s 83)⟩,
 ⟨some 85,none,.mv false (.s 9)⟩,
 ⟨some 86,none,.idxSl 1 (.s 85) (.c (i64 4))⟩,
 ⟨some 87,none,.load none none false (.s 86)⟩,
 ⟨some 88,none,.mv false (.s 9)⟩,
 ⟨some 89,none,.idxSl 1 (.s 88) (.c (i64 5))⟩,
 ⟨some 90,none,.load none none false (.s 89)⟩,
 ⟨some 91,none,.mv false (.s 9)⟩,
 ⟨some 92,none,.idxSl 1 (.s 91) (.c (i64 6))⟩,
 ⟨some 93,none,.load none none false (.s 92)⟩,
 ⟨some 94,none,.mv false (.s 9)⟩,
 ⟨some 95,none,.idxSl 1 (.s 94) (.c (i64 7))⟩,
 ⟨some 96,none,.load none none false (.s 95)⟩,
 ⟨some 97,none,.bin .eql (.s 96) (.c (i64 1))⟩,
 ⟨some 98,none,.mv false (.s 4)⟩,
 ⟨some 99,none,.callm 325 none [(.s 98),(.c (.fn 320 [] []))] [(0,13)] []⟩,
 ⟨some 100,none,.build (List.replicate 7 (i64 0)++[bo false]++bys (z4c 16)) [(0,1,(.s 75)),(1,1,(.s 78)),(2,1,(.s 81)),(3,1,(.s 84)),(4,1,(.s 87)),(5,1,(.s 90)),(6,1,(.s 93)),(7,1,(.s 97)),(8,16,(.s 99))]⟩,
 ⟨some 101,none,.buildSl 24 1 [i64 0,i64 0,i64 0,i64 0,i64 0,i64 0,i64 0,bo false,u8 0,u8 0,u8 0,u8 0,u8 0,u8 0,u8 0,u8 0,u8 0,u8 0,u8 0,u8 0,u8 0,u8 0,u8 0,u8 0] [(0,24,(.s 100))]⟩,
 ⟨some 102,none,.append 24 80 false none none 72 (.s 101)⟩,
 ⟨some 103,none,.fieldAddr 28 (.s 2)⟩,
 ⟨none,none,.store none 2 false (.s 103) (.s 102)⟩]) (
 .ghost (.keep [2,4,7,8]) .skip)
def z7V:z4a:=
 .seq (
 .region [2,4,7,8,9,70] [.norm [2,13],.reB 2 28 (some 24),.norm [2,13]] [
 ⟨some 58,none,.mv false (.s 4)⟩,
 ⟨some 59,none,.mv false (.s 9)⟩,
 ⟨some 60,none,.len false (.s 59)⟩,
 ⟨some 61,none,.bin .eql (.s 60) (.c (i64 8))⟩,
 ⟨some 62,none,.callm 316 none [(.s 58),(.s 61),(.c (i64 6))] [(0,13)] []⟩,
 ⟨some 63,none,.mv false (.s 62)⟩,
 ⟨some 64,(some (63,true)),.mv false (.s 4)⟩,
 ⟨some 65,(some (63,true)),.mv false (.s 9)⟩,
 ⟨some 66,(some (63,true)),.idxSl 1 (.s 65) (.c (i64 7))⟩,
 ⟨some 67,(some (63,true)),.load none none false (.s 66)⟩,
 ⟨some 68,(some (63,true)),.call 295 [(.s 67),(.c (i64 0)),(.c (i64 1))] []⟩,
 ⟨some 69,(some (63,true)),.callm 316 none [(.s 64),(.s 68),(.c (i64 6))] [(0,13)] []⟩,
 ⟨some 70,none,.pick (.s 63) (.s 69) (.c (bo false))⟩]) (
 z0Y)
def z5X:z4a:=
 .seq (
 .block 1 (
 .seq (
 .region [2,4,7,8,9] [.norm [2,13]] [
 ⟨some 56,none,.mv false (.s 4)⟩,
 ⟨some 57,none,.callm 323 none [(.s 56),(.c (.fn 52 [] []))] [(0,13)] []⟩,
 ⟨some 9,none,.mv true (.s 57)⟩]) (
 z7V))) (
 .region [2,4,7,8] [] [
 ⟨some 54,none,.mv false (.s 8)⟩,
 ⟨some 55,none,.bin .add (.s 54) (.c (i64 1))⟩,
 ⟨some 8,none,.mv false (.s 55)⟩])
def z7J:z4a:=
 .seq (
 .seq (
 .region [2,4,7,8,53] [.norm [2,13]] [
 ⟨some 45,none,.mv false (.s 4)⟩,
 ⟨some 46,none,.mv false (.s 7)⟩,
 ⟨some 47,none,.call 295 [(.s 46),(.c (i64 0)),(.c (i64 4096))] []⟩,
 ⟨some 48,none,.callm 316 none [(.s 45),(.s 47),(.c (i64 6))] [(0,13)] []⟩,
 ⟨some 49,none,.mv false (.s 48)⟩,
 ⟨some 50,(some (49,true)),.mv false (.s 8)⟩,
 ⟨some 51,(some (49,true)),.mv false (.s 7)⟩,
 ⟨some 52,(some (49,true)),.bin .lss (.s 50) (.s 51)⟩,
 ⟨some 53,none,.pick (.s 49) (.s 52) (.c (bo false))⟩]) (
 z7H)) (
 z5X)
def z0Z:z4a:=
 .block 0 (
 .loop z7J)
def z4V:z4a:=
 .cond (.s 119) (
 .seq (
 .region [2,3] [.norm [2,13]] [
 ⟨some 120,none,.build (List.replicate 10 (i64 0)++[st []]++[.sl .plain none 0 []]++bys (z4c 16)++[.sl .plain none 0 []]++[.sl .plain none 0 []]) []⟩,
 ⟨some 121,none,.mv false (.s 4)⟩,
 ⟨some 122,none,.nilchk (.s 121)⟩,
 ⟨some 123,none,.fieldAddr 1 (.s 122)⟩,
 ⟨some 124,none,.load none (some 13) false (.s 123)⟩,
 ⟨none,none,.store (some 30) 2 false (.s 2) (.s 120)⟩,
 ⟨some 3,none,.mv false (.s 124)⟩]) (
 .ret)) (
 .ghost (.keep [2]) .skip)
def z6V:z4a:=
 .seq (
 .region [2,3] [.norm [2,13]] [
 ⟨some 125,none,.load (some 30) (some 2) false (.s 2)⟩,
 ⟨none,none,.store (some 30) 2 false (.s 2) (.s 125)⟩,
 ⟨some 3,none,.mv false (.c (i64 0))⟩]) (
 .ret)
def z3W:z4a:=
 .seq (
 .seq (
 .region [2,4,119] [.norm [2,13]] [
 ⟨some 107,none,.mv false (.s 4)⟩,
 ⟨some 108,none,.mv false (.s 4)⟩,
 ⟨some 109,none,.nilchk (.s 108)⟩,
 ⟨some 110,none,.fieldAddr 0 (.s 109)⟩,
 ⟨some 111,none,.load none (some 13) false (.s 110)⟩,
 ⟨some 112,none,.len false (.s 111)⟩,
 ⟨some 113,none,.bin .eql (.s 112) (.c (i64 0))⟩,
 ⟨some 114,none,.mv false (.s 113)⟩,
 ⟨some 115,(some (114,true)),.load (some 30) (some 2) false (.s 2)⟩,
 ⟨some 116,(some (114,true)),.call 300 [(.s 115)] []⟩,
 ⟨some 117,none,.pick (.s 114) (.s 116) (.c (bo false))⟩,
 ⟨some 118,none,.callm 316 none [(.s 107),(.s 117),(.c (i64 6))] [(0,13)] []⟩,
 ⟨some 119,none,.un .not (.s 118)⟩]) (
 z4V)) (
 z6V)
def z9V:z4a:=
 .seq (
 .region [2,4] [.norm [2,13]] [
 ⟨some 104,none,.mv false (.s 4)⟩,
 ⟨some 105,none,.callm 323 none [(.s 104),(.c (.fn 52 [] []))] [(0,13)] []⟩,
 ⟨some 106,none,.fieldAddr 29 (.s 2)⟩,
 ⟨none,none,.store none 2 true (.s 106) (.s 105)⟩]) (
 z3W)
def z80:z4a:=
 .seq (
 .seq (
 .region [2,4,7,8] [] [
 ⟨some 8,none,.mv false (.c (i64 0))⟩]) (
 z0Z)) (
 z9V)
def z6Z:z4a:=
 .seq (
 .region [2,4,7] [.norm [2,13]] [
 ⟨some 43,none,.mv false (.s 4)⟩,
 ⟨some 44,none,.callm 326 none [(.s 43),(.c (.fn 45 [] []))] [(0,13)] []⟩,
 ⟨some 7,none,.mv false (.s 44)⟩]) (
 z80)
def z01:z4a:=
 .seq (
 .region [2,4] [.norm [2,13]] [
 ⟨some 40,none,.mv false (.s 4)⟩,
 ⟨some 41,none,.callm 325 none [(.s 40),(.c (.fn 320 [] []))] [(0,13)] []⟩,
 ⟨some 42,none,.fieldAddr 12 (.s 2)⟩,
 ⟨none,none,.store (some 16) 2 false (.s 42) (.s 41)⟩]) (
 z6Z)
def z9Z:z4a:=
 .seq (
 .region [2,4] [.norm [2,13]] [
 ⟨some 36,none,.mv false (.s 4)⟩,
 ⟨some 37,none,.mv false (.s 6)⟩,
 ⟨some 38,none,.callm 318 none [(.s 36),(.s 37)] [(0,13)] []⟩,
 ⟨some 39,none,.fieldAddr 4 (.s 2)⟩,
 ⟨none,none,.store (some 8) 2 false (.s 39) (.s 38)⟩]) (
 z01)
def z20:z4a:=
 .seq (
 .region [2,4,6] [.norm [2,13]] [
 ⟨some 34,none,.mv false (.s 4)⟩,
 ⟨some 35,none,.callm 324 none [(.s 34),(.c (.fn 48 [] []))] [(0,13)] []⟩,
 ⟨some 6,none,.mv false (.s 35)⟩]) (
 z9Z)
def z60:z4a:=
 .seq (
 .seq (
 .region [2,4,5,20] [.norm [2,13]] [
 ⟨some 16,none,.mv false (.s 4)⟩,
 ⟨some 17,none,.mv false (.s 5)⟩,
 ⟨some 18,none,.len false (.s 17)⟩,
 ⟨some 19,none,.bin .eql (.s 18) (.c (i64 4))⟩,
 ⟨some 20,none,.callm 316 none [(.s 16),(.s 19),(.c (i64 6))] [(0,13)] []⟩]) (
 z13)) (
 z20)
def z30:z4a:=
 .seq (
 .region [2,4,5] [.norm [2,13]] [
 ⟨some 14,none,.mv false (.s 4)⟩,
 ⟨some 15,none,.callm 323 none [(.s 14),(.c (.fn 52 [] []))] [(0,13)] []⟩,
 ⟨some 5,none,.mv true (.s 15)⟩]) (
 z60)
def z02:z4a:=
 .seq (
 .region [2,4] [.norm [2,13]] [
 ⟨some 10,none,.mv false (.s 0)⟩,
 ⟨some 11,none,.toBytes (.s 10)⟩,
 ⟨some 12,none,.build [.sl .plain none 0 [],i64 0] [(0,1,(.s 11))]⟩,
 ⟨some 13,none,.box 13 (some 2) false (.s 12)⟩,
 ⟨some 4,none,.mv false (.s 13)⟩]) (
 z30)
def z6o:z2t:=
 {n:=1,wr:=[],res:=[.cell 2 (some 30) 2,.t 3],body:=
 .seq (
 .region [2] [.norm [2]] [
 ⟨some 2,none,.alloc 2 (List.replicate 10 (i64 0)++[st []]++[.sl .plain none 0 []]++bys (z4c 16)++[.sl (.own 24) none 0 []]++[.sl (.own 1) none 0 []])⟩,
 ⟨some 3,none,.mv false (.c (i64 0))⟩]) (
 z02)}

def z3w:z4a:=
 .cond (.s 12) (
 .seq (
 .region [0,4] [] [
 ⟨some 13,none,.mv true (.s 4)⟩,
 ⟨some 4,none,.mv true (.s 13)⟩]) (
 .ret)) (
 .ghost (.keep [0,1,4]) .skip)
def z9Q:z4a:=
 .seq (
 .region [0,4] [] [
 ⟨some 30,none,.mv true (.s 4)⟩,
 ⟨some 4,none,.mv true (.s 30)⟩]) (
 .ret)
def z8v:z4a:=
 .cond (.s 25) (
 .seq (
 .region [0,4] [.norm [0]] [
 ⟨some 26,none,.mv false (.s 0)⟩,
 ⟨some 27,none,.mv false (.s 7)⟩,
 ⟨some 28,none,.nilchk (.s 26)⟩,
 ⟨some 29,none,.fieldAddr 1 (.s 28)⟩,
 ⟨none,none,.store none 0 false (.s 29) (.s 27)⟩]) (
 z9Q)) (
 .ghost (.keep [0,5,6]) .skip)
def z6v:z4a:=
 .seq (
 .region [0,4] [] [
 ⟨some 40,none,.mv true (.s 5)⟩,
 ⟨some 4,none,.mv true (.s 40)⟩]) (
 .ret)
def z1x:z4a:=
 .seq (
 .region [0,5] [.norm [0]] [
 ⟨some 31,none,.mv false (.s 0)⟩,
 ⟨some 32,none,.mv false (.s 0)⟩,
 ⟨some 33,none,.nilchk (.s 32)⟩,
 ⟨some 34,none,.fieldAddr 0 (.s 33)⟩,
 ⟨some 35,none,.load none (some 0) false (.s 34)⟩,
 ⟨some 36,none,.mv false (.s 6)⟩,
 ⟨some 37,none,.slSl 1 (.s 35) (some (.s 36)) none none⟩,
 ⟨some 38,none,.nilchk (.s 31)⟩,
 ⟨some 39,none,.fieldAddr 0 (.s 38)⟩,
 ⟨none,none,.store none 0 true (.s 39) (.s 37)⟩]) (
 z6v)
def z8w:z4a:=
 .seq (
 .seq (
 .region [0,4,5,6,7,25] [] [
 ⟨some 24,none,.mv false (.s 7)⟩,
 ⟨some 25,none,.bin .neq (.s 24) (.c (i64 0))⟩]) (
 z8v)) (
 z1x)
def z1w:z4a:=
 .seq (
 .region [0,4,5,6,7] [.norm [0]] [
 ⟨some 15,none,.mv false (.s 1)⟩,
 ⟨some 16,none,.mv false (.s 0)⟩,
 ⟨some 17,none,.nilchk (.s 16)⟩,
 ⟨some 18,none,.fieldAddr 0 (.s 17)⟩,
 ⟨some 19,none,.load none (some 0) false (.s 18)⟩,
 ⟨some 20,none,.callv 52 (.s 15) [(.s 19)] []⟩,
 ⟨some 14,none,.mv false (.s 20)⟩,
 ⟨some 21,none,.extract 0 (.s 14)⟩,
 ⟨some 22,none,.extract 1 (.s 14)⟩,
 ⟨some 23,none,.extract 2 (.s 14)⟩,
 ⟨some 5,none,.mv true (.s 21)⟩,
 ⟨some 6,none,.mv false (.s 22)⟩,
 ⟨some 7,none,.mv false (.s 23)⟩]) (
 z8w)
def z0w:z4a:=
 .seq (
 .seq (
 .region [0,1,4,12] [.norm [0]] [
 ⟨some 8,none,.mv false (.s 0)⟩,
 ⟨some 9,none,.nilchk (.s 8)⟩,
 ⟨some 10,none,.fieldAddr 1 (.s 9)⟩,
 ⟨some 11,none,.load none (some 0) false (.s 10)⟩,
 ⟨some 12,none,.bin .neq (.s 11) (.c (i64 0))⟩]) (
 z3w)) (
 z1w)
def z4f:z2t:=
 {n:=2,wr:=[],res:=[.t 4],body:=
 .seq (
 .region [0,1,4] [] [
 ⟨some 4,none,.mv true (.c (.sl (.own 1) none 0 []))⟩]) (
 z0w)}

def z3I:z4a:=
 .cond (.s 15) (
 .region [0] [.norm [0]] [
 ⟨some 16,none,.mv false (.s 0)⟩,
 ⟨some 17,none,.mv false (.s 2)⟩,
 ⟨some 18,none,.nilchk (.s 16)⟩,
 ⟨some 19,none,.fieldAddr 1 (.s 18)⟩,
 ⟨none,none,.store none 0 false (.s 19) (.s 17)⟩]) (
 .ghost (.keep [0]) .skip)
def z8G:z4a:=
 .seq (
 .region [0,6] [.norm [0]] [
 ⟨some 20,none,.mv false (.s 0)⟩,
 ⟨some 21,none,.nilchk (.s 20)⟩,
 ⟨some 22,none,.fieldAddr 1 (.s 21)⟩,
 ⟨some 23,none,.load none (some 0) false (.s 22)⟩,
 ⟨some 24,none,.bin .eql (.s 23) (.c (i64 0))⟩,
 ⟨some 6,none,.mv false (.s 24)⟩]) (
 .ret)
def z0I:z4a:=
 .seq (
 .seq (
 .region [0,2,15] [.norm [0]] [
 ⟨some 7,none,.mv false (.s 0)⟩,
 ⟨some 8,none,.nilchk (.s 7)⟩,
 ⟨some 9,none,.fieldAddr 1 (.s 8)⟩,
 ⟨some 10,none,.load none (some 0) false (.s 9)⟩,
 ⟨some 11,none,.bin .eql (.s 10) (.c (i64 0))⟩,
 ⟨some 12,none,.mv false (.s 11)⟩,
 ⟨some 13,(some (12,true)),.mv false (.s 1)⟩,
 ⟨some 14,(some (12,true)),.un .not (.s 13)⟩,
 ⟨some 15,none,.pick (.s 12) (.s 14) (.c (bo false))⟩]) (
 z3I)) (
 z8G)
def z8i:z2t:=
 {n:=3,wr:=[],res:=[.t 6],body:=
 .seq (
 .region [0,1,2] [] [
 ⟨some 6,none,.mv false (.c (bo false))⟩]) (
 z0I)}

def z5u:z4a:=
 .cond (.s 12) (
 .seq (
 .region [0,4] [] [
 ⟨some 13,none,.mv false (.s 4)⟩,
 ⟨some 4,none,.mv false (.s 13)⟩]) (
 .ret)) (
 .ghost (.keep [0,1,4]) .skip)
def z4P:z4a:=
 .seq (
 .region [0,4] [] [
 ⟨some 30,none,.mv false (.s 4)⟩,
 ⟨some 4,none,.mv false (.s 30)⟩]) (
 .ret)
def z2u:z4a:=
 .cond (.s 25) (
 .seq (
 .region [0,4] [.norm [0]] [
 ⟨some 26,none,.mv false (.s 0)⟩,
 ⟨some 27,none,.mv false (.s 7)⟩,
 ⟨some 28,none,.nilchk (.s 26)⟩,
 ⟨some 29,none,.fieldAddr 1 (.s 28)⟩,
 ⟨none,none,.store none 0 false (.s 29) (.s 27)⟩]) (
 z4P)) (
 .ghost (.keep [0,5,6]) .skip)
def z8t:z4a:=
 .seq (
 .region [0,4] [] [
 ⟨some 40,none,.mv false (.s 5)⟩,
 ⟨some 4,none,.mv false (.s 40)⟩]) (
 .ret)
def z7u:z4a:=
 .seq (
 .region [0,5] [.norm [0]] [
 ⟨some 31,none,.mv false (.s 0)⟩,
 ⟨some 32,none,.mv false (.s 0)⟩,
 ⟨some 33,none,.nilchk (.s 32)⟩,
 ⟨some 34,none,.fieldAddr 0 (.s 33)⟩,
 ⟨some 35,none,.load none (some 0) false (.s 34)⟩,
 ⟨some 36,none,.mv false (.s 6)⟩,
 ⟨some 37,none,.slSl 1 (.s 35) (some (.s 36)) none none⟩,
 ⟨some 38,none,.nilchk (.s 31)⟩,
 ⟨some 39,none,.fieldAddr 0 (.s 38)⟩,
 ⟨none,none,.store none 0 true (.s 39) (.s 37)⟩]) (
 z8t)
def z3t:z4a:=
 .seq (
 .seq (
 .region [0,4,5,6,7,25] [] [
 ⟨some 24,none,.mv false (.s 7)⟩,
 ⟨some 25,none,.bin .neq (.s 24) (.c (i64 0))⟩]) (
 z2u)) (
 z7u)
def z9u:z4a:=
 .seq (
 .region [0,4,5,6,7] [.norm [0]] [
 ⟨some 15,none,.mv false (.s 1)⟩,
 ⟨some 16,none,.mv false (.s 0)⟩,
 ⟨some 17,none,.nilchk (.s 16)⟩,
 ⟨some 18,none,.fieldAddr 0 (.s 17)⟩,
 ⟨some 19,none,.load none (some 0) false (.s 18)⟩,
 ⟨some 20,none,.callv 48 (.s 15) [(.s 19)] []⟩,
 ⟨some 14,none,.mv false (.s 20)⟩,
 ⟨some 21,none,.extract 0 (.s 14)⟩,
 ⟨some 22,none,.extract 1 (.s 14)⟩,
 ⟨some 23,none,.extract 2 (.s 14)⟩,
 ⟨some 5,none,.mv false (.s 21)⟩,
 ⟨some 6,none,.mv false (.s 22)⟩,
 ⟨some 7,none,.mv false (.s 23)⟩]) (
 z3t)
def z8u:z4a:=
 .seq (
 .seq (
 .region [0,1,4,12] [.norm [0]] [
 ⟨some 8,none,.mv false (.s 0)⟩,
 ⟨some 9,none,.nilchk (.s 8)⟩,
 ⟨some 10,none,.fieldAddr 1 (.s 9)⟩,
 ⟨some 11,none,.load none (some 0) false (.s 10)⟩,
 ⟨some 12,none,.bin .neq (.s 11) (.c (i64 0))⟩]) (
 z5u)) (
 z9u)
def z9e:z2t:=
 {n:=2,wr:=[],res:=[.t 4],body:=
 .seq (
 .region [0,1,4] [] [
 ⟨some 4,none,.mv false (.c (st []))⟩]) (
 z8u)}

def z6A:z4a:=
 .region [0,4,5,22,23,24] [.norm [0,4,15,22]] [
 ⟨some 28,none,.mv false (.s 7)⟩,
 ⟨some 29,none,.mv false (.s 5)⟩,
 ⟨some 30,none,.callm 326 none [(.s 29),(.c (.fn 45 [] []))] [(0,15)] []⟩,
 ⟨some 31,none,.nilchk (.s 28)⟩,
 ⟨none,none,.store none 4 false (.s 31) (.s 30)⟩]
def z0C:z4a:=
 .seq (
 .block 1 (
 .seq (
 .region [0,4,5,7,22,23,24] [.norm [0,4,15,22]] [
 ⟨some 26,none,.idxSl 1 (.s 22) (.s 24)⟩,
 ⟨some 27,none,.load none (some 22) false (.s 26)⟩,
 ⟨some 7,none,.mv false (.s 27)⟩]) (
 z6A))) (
 .region [0,4,5,22,23,24] [] [
 ⟨some 32,none,.bin .add (.s 24) (.c (i64 1))⟩,
 ⟨some 24,none,.mv false (.s 32)⟩])
def z2q:z4a:=
 .seq (
 .cond (.s 25) (
 .ghost (.keep [0,4,5,22,23,24]) .skip) (
 .ghost (.keep [0,4,5]) (.exit 0))) (
 z0C)
def z5q:z4a:=
 .seq (
 .region [0,4,5,22,23,24,25] [] [
 ⟨some 25,none,.bin .lss (.s 24) (.s 23)⟩]) (
 z2q)
def z5Y:z4a:=
 .block 0 (
 .loop z5q)
def z9z:z4a:=
 .seq (
 .region [0,4] [.norm [0,4,15,22]] [
 ⟨some 54,none,.load (some 8) (some 4) false (.s 4)⟩,
 ⟨none,none,.store (some 8) 4 false (.s 4) (.s 54)⟩]) (
 .ret)
def z4A:z4a:=
 .seq (
 .region [0,4] [.norm [0,4,15,22]] [
 ⟨some 47,none,.mv false (.s 0)⟩,
 ⟨some 48,none,.mv false (.s 5)⟩,
 ⟨some 49,none,.nilchk (.s 48)⟩,
 ⟨some 50,none,.fieldAddr 1 (.s 49)⟩,
 ⟨some 51,none,.load none (some 15) false (.s 50)⟩,
 ⟨some 52,none,.nilchk (.s 47)⟩,
 ⟨some 53,none,.fieldAddr 1 (.s 52)⟩,
 ⟨none,none,.store none 0 false (.s 53) (.s 51)⟩]) (
 z9z)
def z5A:z4a:=
 .seq (
 .region [0,4,5] [.norm [0,4,15,22]] [
 ⟨some 39,none,.mv false (.s 5)⟩,
 ⟨some 40,none,.mv false (.s 5)⟩,
 ⟨some 41,none,.nilchk (.s 40)⟩,
 ⟨some 42,none,.fieldAddr 0 (.s 41)⟩,
 ⟨some 43,none,.load none (some 15) false (.s 42)⟩,
 ⟨some 44,none,.len false (.s 43)⟩,
 ⟨some 45,none,.bin .eql (.s 44) (.c (i64 0))⟩,
 ⟨some 46,none,.callm 316 none [(.s 39),(.s 45),(.c (i64 6))] [(0,15)] []⟩]) (
 z4A)
def z9B:z4a:=
 .seq (
 .region [0,4,5] [.norm [0,4,15,22]] [
 ⟨some 36,none,.mv false (.s 5)⟩,
 ⟨some 37,none,.callm 323 none [(.s 36),(.c (.fn 52 [] []))] [(0,15)] []⟩,
 ⟨some 38,none,.fieldAddr 7 (.s 4)⟩,
 ⟨none,none,.store none 4 true (.s 38) (.s 37)⟩]) (
 z5A)
def z4B:z4a:=
 .seq (
 .region [0,4,5] [.norm [0,4,15,22]] [
 ⟨some 33,none,.mv false (.s 5)⟩,
 ⟨some 34,none,.callm 324 none [(.s 33),(.c (.fn 48 [] []))] [(0,15)] []⟩,
 ⟨some 35,none,.fieldAddr 6 (.s 4)⟩,
 ⟨none,none,.store none 4 false (.s 35) (.s 34)⟩]) (
 z9B)
def z5B:z4a:=
 .seq (
 .seq (
 .region [0,4,5,22,23,24] [.norm [0,4,15,22]] [
 ⟨some 16,none,.fieldAddr 0 (.s 4)⟩,
 ⟨some 17,none,.fieldAddr 1 (.s 4)⟩,
 ⟨some 18,none,.fieldAddr 2 (.s 4)⟩,
 ⟨some 19,none,.fieldAddr 3 (.s 4)⟩,
 ⟨some 20,none,.fieldAddr 4 (.s 4)⟩,
 ⟨some 21,none,.fieldAddr 5 (.s 4)⟩,
 ⟨some 22,none,.buildBx 22 1 6 [.lit (.pointer none),.lit (.pointer none),.lit (.pointer none),.lit (.pointer none),.lit (.pointer none),.lit (.pointer none)] [(0,1,(.s 16)),(1,1,(.s 17)),(2,1,(.s 18)),(3,1,(.s 19)),(4,1,(.s 20)),(5,1,(.s 21))]⟩,
 ⟨some 23,none,.len false (.s 22)⟩,
 ⟨some 24,none,.mv false (.c (i64 0))⟩]) (
 z5Y)) (
 z4B)
def z1B:z4a:=
 .seq (
 .region [0,4,5] [.norm [0,4,15]] [
 ⟨some 8,none,.mv false (.s 1)⟩,
 ⟨some 9,none,.toBytes (.s 8)⟩,
 ⟨some 10,none,.mv false (.s 0)⟩,
 ⟨some 11,none,.nilchk (.s 10)⟩,
 ⟨some 12,none,.fieldAddr 1 (.s 11)⟩,
 ⟨some 13,none,.load none (some 0) false (.s 12)⟩,
 ⟨some 14,none,.build [.sl .plain none 0 [],i64 0] [(0,1,(.s 9)),(1,1,(.s 13))]⟩,
 ⟨some 15,none,.box 15 (some 2) false (.s 14)⟩,
 ⟨some 5,none,.mv false (.s 15)⟩]) (
 z5B)
def z4e:z2t:=
 {n:=2,wr:=[],res:=[.cell 4 (some 8) 4],body:=
 .seq (
 .region [0,1,4] [.norm [0,4]] [
 ⟨some 4,none,.alloc 4 (List.replicate 6 (i64 0)++[st []]++[.sl .plain none 0 []])⟩]) (
 z1B)}

def z7v:z4a:=
 .cond (.s 12) (
 .seq (
 .region [0,4] [.norm [0,4]] [
 ⟨some 13,none,.load (some 16) (some 4) false (.s 4)⟩,
 ⟨none,none,.store (some 16) 4 false (.s 4) (.s 13)⟩]) (
 .ret)) (
 .ghost (.keep [0,1,4]) .skip)
def z6Q:z4a:=
 .seq (
 .region [0,4] [.norm [0,4,5]] [
 ⟨some 30,none,.load (some 16) (some 4) false (.s 4)⟩,
 ⟨none,none,.store (some 16) 4 false (.s 4) (.s 30)⟩]) (
 .ret)
def z5v:z4a:=
 .cond (.s 25) (
 .seq (
 .region [0,4] [.norm [0,4,5]] [
 ⟨some 26,none,.mv false (.s 0)⟩,
 ⟨some 27,none,.mv false (.s 7)⟩,
 ⟨some 28,none,.nilchk (.s 26)⟩,
 ⟨some 29,none,.fieldAddr 1 (.s 28)⟩,
 ⟨none,none,.store none 0 false (.s 29) (.s 27)⟩]) (
 z6Q)) (
 .ghost (.keep [0,4,5,6]) .skip)
def z4w:z4a:=
 .seq (
 .region [0,4] [.norm [0,4,5]] [
 ⟨some 40,none,.load (some 16) (some 5) false (.s 5)⟩,
 ⟨none,none,.store (some 16) 4 false (.s 4) (.s 40)⟩]) (
 .ret)
def z4v:z4a:=
 .seq (
 .region [0,4,5] [.norm [0,4,5]] [
 ⟨some 31,none,.mv false (.s 0)⟩,
 ⟨some 32,none,.mv false (.s 0)⟩,
 ⟨some 33,none,.nilchk (.s 32)⟩,
 ⟨some 34,none,.fieldAddr 0 (.s 33)⟩,
 ⟨some 35,none,.load none (some 0) false (.s 34)⟩,
 ⟨some 36,none,.mv false (.s 6)⟩,
 ⟨some 37,none,.slSl 1 (.s 35) (some (.s 36)) none none⟩,
 ⟨some 38,none,.nilchk (.s 31)⟩,
 ⟨some 39,none,.fieldAddr 0 (.s 38)⟩,
 ⟨none,none,.store none 0 true (.s 39) (.s 37)⟩]) (
 z4w)
def z0x:z4a:=
 .seq (
 .seq (
 .region [0,4,5,6,7,25] [] [
 ⟨some 24,none,.mv false (.s 7)⟩,
 ⟨some 25,none,.bin .neq (.s 24) (.c (i64 0))⟩]) (
 z5v)) (
 z4v)
def z9w:z4a:=
 .seq (
 .region [0,4,5,6,7] [.norm [0,4,5]] [
 ⟨some 15,none,.mv false (.s 1)⟩,
 ⟨some 16,none,.mv false (.s 0)⟩,
 ⟨some 17,none,.nilchk (.s 16)⟩,
 ⟨some 18,none,.fieldAddr 0 (.s 17)⟩,
 ⟨some 19,none,.load none (some 0) false (.s 18)⟩,
 ⟨some 20,none,.callv 320 (.s 15) [(.s 19)] []⟩,
 ⟨some 14,none,.mv false (.s 20)⟩,
 ⟨some 21,none,.extract 0 (.s 14)⟩,
 ⟨some 22,none,.extract 1 (.s 14)⟩,
 ⟨some 23,none,.extract 2 (.s 14)⟩,
 ⟨some 5,none,.alloc 5 (bys (z4c 16))⟩,
 ⟨none,none,.store (some 16) 5 false (.s 5) (.s 21)⟩,
 ⟨some 6,none,.mv false (.s 22)⟩,
 ⟨some 7,none,.mv false (.s 23)⟩]) (
 z0x)
def z5w:z4a:=
 .seq (
 .seq (
 .region [0,1,4,12] [.norm [0,4]] [
 ⟨some 8,none,.mv false (.s 0)⟩,
 ⟨some 9,none,.nilchk (.s 8)⟩,
 ⟨some 10,none,.fieldAddr 1 (.s 9)⟩,
 ⟨some 11,none,.load none (some 0) false (.s 10)⟩,
 ⟨some 12,none,.bin .neq (.s 11) (.c (i64 0))⟩]) (
 z7v)) (
 z9w)
def z3f:z2t:=
 {n:=2,wr:=[],res:=[.cell 4 (some 16) 4],body:=
 .seq (
 .region [0,1,4] [.norm [0,4]] [
 ⟨some 4,none,.alloc 4 (bys (z4c 16))⟩]) (
 z5w)}

def z2Z:z4a:=
 .cond (.s 7) (
 .seq (
 .region [2,3,4] [.norm [2]] [
 ⟨some 8,none,.load (some 16) (some 2) false (.s 2)⟩,
 ⟨none,none,.store (some 16) 2 false (.s 2) (.s 8)⟩,
 ⟨some 3,none,.mv false (.c (i64 0))⟩,
 ⟨some 4,none,.mv false (.c (i64 5))⟩]) (
 .ret)) (
 .ghost (.keep [2]) .skip)
def z90:z4a:=
 .seq (
 .region [2,3,4] [.norm [2]] [
 ⟨some 9,none,.mv false (.s 0)⟩,
 ⟨some 10,none,.slSl 1 (.s 9) none (some (.c (i64 16))) none⟩,
 ⟨some 11,none,.s2ap 16 (.s 10)⟩,
 ⟨some 12,none,.load (some 16) none false (.s 11)⟩,
 ⟨none,none,.store (some 16) 2 false (.s 2) (.s 12)⟩,
 ⟨some 3,none,.mv false (.c (i64 16))⟩,
 ⟨some 4,none,.mv false (.c (i64 0))⟩]) (
 .ret)
def z41:z4a:=
 .seq (
 .seq (
 .region [2,7] [] [
 ⟨some 5,none,.mv false (.s 0)⟩,
 ⟨some 6,none,.len false (.s 5)⟩,
 ⟨some 7,none,.bin .lss (.s 6) (.c (i64 16))⟩]) (
 z2Z)) (
 z90)
def z7o:z2t:=
 {n:=1,wr:=[],res:=[.cell 2 (some 16) 2,.t 3,.t 4],body:=
 .seq (
 .region [2] [.norm [2]] [
 ⟨some 2,none,.alloc 2 (bys (z4c 16))⟩,
 ⟨some 3,none,.mv false (.c (i64 0))⟩,
 ⟨some 4,none,.mv false (.c (i64 0))⟩]) (
 z41)}

def z7y:z4a:=
 .cond (.s 12) (
 .seq (
 .region [0,4] [] [
 ⟨some 13,none,.mv false (.s 4)⟩,
 ⟨some 4,none,.mv false (.s 13)⟩]) (
 .ret)) (
 .ghost (.keep [0,1,4]) .skip)
def z8T:z4a:=
 .seq (
 .region [0,4] [] [
 ⟨some 30,none,.mv false (.s 4)⟩,
 ⟨some 4,none,.mv false (.s 30)⟩]) (
 .ret)
def z2y:z4a:=
 .cond (.s 25) (
 .seq (
 .region [0,4] [.norm [0]] [
 ⟨some 26,none,.mv false (.s 0)⟩,
 ⟨some 27,none,.mv false (.s 7)⟩,
 ⟨some 28,none,.nilchk (.s 26)⟩,
 ⟨some 29,none,.fieldAddr 1 (.s 28)⟩,
 ⟨none,none,.store none 0 false (.s 29) (.s 27)⟩]) (
 z8T)) (
 .ghost (.keep [0,5,6]) .skip)
def z0y:z4a:=
 .seq (
 .region [0,4] [] [
 ⟨some 40,none,.mv false (.s 5)⟩,
 ⟨some 4,none,.mv false (.s 40)⟩]) (
 .ret)
def z6y:z4a:=
 .seq (
 .region [0,5] [.norm [0]] [
 ⟨some 31,none,.mv false (.s 0)⟩,
 ⟨some 32,none,.mv false (.s 0)⟩,
 ⟨some 33,none,.nilchk (.s 32)⟩,
 ⟨some 34,none,.fieldAddr 0 (.s 33)⟩,
 ⟨some 35,none,.load none (some 0) false (.s 34)⟩,
 ⟨some 36,none,.mv false (.s 6)⟩,
 ⟨some 37,none,.slSl 1 (.s 35) (some (.s 36)) none none⟩,
 ⟨some 38,none,.nilchk (.s 31)⟩,
 ⟨some 39,none,.fieldAddr 0 (.s 38)⟩,
 ⟨none,none,.store none 0 true (.s 39) (.s 37)⟩]) (
 z0y)
def z1y:z4a:=
 .seq (
 .seq (
 .region [0,4,5,6,7,25] [] [
 ⟨some 24,none,.mv false (.s 7)⟩,
 ⟨some 25,none,.bin .neq (.s 24) (.c (i64 0))⟩]) (
 z2y)) (
 z6y)
def z4y:z4a:=
 .seq (
 .region [0,4,5,6,7] [.norm [0]] [
 ⟨some 15,none,.mv false (.s 1)⟩,
 ⟨some 16,none,.mv false (.s 0)⟩,
 ⟨some 17,none,.nilchk (.s 16)⟩,
 ⟨some 18,none,.fieldAddr 0 (.s 17)⟩,
 ⟨some 19,none,.load none (some 0) false (.s 18)⟩,
 ⟨some 20,none,.callv 45 (.s 15) [(.s 19)] []⟩,
 ⟨some 14,none,.mv false (.s 20)⟩,
 ⟨some 21,none,.extract 0 (.s 14)⟩,
 ⟨some 22,none,.extract 1 (.s 14)⟩,
 ⟨some 23,none,.extract 2 (.s 14)⟩,
 ⟨some 5,none,.mv false (.s 21)⟩,
 ⟨some 6,none,.mv false (.s 22)⟩,
 ⟨some 7,none,.mv false (.s 23)⟩]) (
 z1y)
def z8y:z4a:=
 .seq (
 .seq (
 .region [0,1,4,12] [.norm [0]] [
 ⟨some 8,none,.mv false (.s 0)⟩,
 ⟨some 9,none,.nilchk (.s 8)⟩,
 ⟨some 10,none,.fieldAddr 1 (.s 9)⟩,
 ⟨some 11,none,.load none (some 0) false (.s 10)⟩,
 ⟨some 12,none,.bin .neq (.s 11) (.c (i64 0))⟩]) (
 z7y)) (
 z4y)
def z9f:z2t:=
 {n:=2,wr:=[],res:=[.t 4],body:=
 .seq (
 .region [0,1,4] [] [
 ⟨some 4,none,.mv false (.c (i64 0))⟩]) (
 z8y)}

end Go.Abs
end

section
namespace Go.Abs
set_option maxRecDepth 100000
@[simp] theorem z9Nc (ids:List Nat) (f:Nat→List z2a) (n:Int):z2na ids f (i64 n)=i64 n:=rfl
@[simp] theorem z25c (ids:List Nat) (f:Nat→List z2a) (b:Bool):z2na ids f (bo b)=bo b:=rfl
@[simp] theorem z40c (ids:List Nat) (f:Nat→List z2a) (s:List UInt8):z2na ids f (st s)=st s:=rfl
theorem z7ia {l:List Int} (h:∀x∈l,z2l x) (hl:l.length≤1000000000):(z0q l).length≤9*l.length+9:=by
 have e1:=z4l (n:=(l.length:Int)) (by constructor<;>omega)
 have e2:=z7f h
 rw[z0q,List.length_append]
 omega
theorem z69b {m:z3e} (h:m.ok):(z9Ca m).length≤97:=by
 have h1:=z7ia (z63a h) (by simp[z4ja])
 have h2:=h.2.2.2.2.2.2.2
 rw[z9Ca,List.length_append,h2]
 simp only[z4ja,List.length_cons,List.length_nil] at h1⊢
 omega
theorem z0Ca:∀{l:List z3e},z5d l→(l.flatMap z9Ca).length≤97*l.length
 |[],_=>by simp
 |a::l,h=>by
  have h1:=z69b (h a (by simp))
  have h2:=z0Ca (l:=l) fun m hm=>h m (by simp[hm])
  rw[List.flatMap_cons,List.length_append,List.length_cons]
  omega
theorem z5Va {l:List Int} {n:Nat} {cs:List z2a} (nl:Option Bool) (h:∀x∈l,z2l x) (hl:l.length≤100000000) (hn:n=l.length) (hc:cs=z4j l):z6G.pre [.sl .plain nl n cs]=True:=by
 subst hn hc
 exact z5Ga hl h rfl
theorem z4Ca {l:List Int} {n:Nat} {cs:List z2a} (nl:Option Bool) (hc:cs=z4j l):z6G.post [.sl .plain nl n cs]= .sl (.own 1) (some false) (z0q l).length (bys (z0q l)):=by
 subst hc
 rw[z6G,z88];rfl
theorem z5mb {x:z9o} (h:x.ok):∀z∈[x.time,x.kind,x.req,x.mode],z2l z:=by
 obtain⟨h1,h2,h3,h4,_⟩:=h
 intro z hz
 simp only[List.mem_cons,List.not_mem_nil,or_false] at hz
 rcases hz with rfl|rfl|rfl|rfl<;>assumption
def z7Ob (x:z9o):List UInt8:=z0q [x.time,x.kind,x.req,x.mode]++(z3U (z4Z x.cmd)++(x.dig++z1t x.made.length))
theorem z7Mb (x:z9o):z6Aa x=(z7Ob x++x.made.flatMap z9Ca)++z0q x.gone:=by simp[z6Aa,z7Ob]
theorem z2jb {x:z9o} (h:x.small):(z7Ob x).length≤2000001000:=by
 have h1:=z7ia (z5mb h.1) (by simp)
 have h2:=z8pa h.2.1
 have h3:=z4l (n:=((z4Z x.cmd).length:Int)) (by constructor<;>omega)
 have h4:=z4l (n:=(x.made.length:Int)) (by have:=h.2.2.1;constructor<;>omega)
 have h5:=h.1.2.2.2.2.2.1
 simp only[List.length_cons,List.length_nil] at h1
 rw[z7Ob,z3U]
 simp only[List.length_append,h5]
 omega
set_option maxHeartbeats 16000000 in
theorem z1Ib (E:Env) (h39:E.G 39=z6G) (h130:E.G 130=z1ha) (h7:E.G 7=z39) (h12:E.G 12=z99a) (h129:E.G 129=z6x):∀ds,z6La.pre ds→ds.length=z4o.n∧awp E z4o.body (z1A z4o.res (z6La.post ds)) (z9c z4o.wr ds):=by
 rintro _ ⟨nc,nm,ng,x,hx,rfl⟩
 rw[z7qa hx,z7Mb]
 have hd:=hx.1.2.2.2.2.2.1
 have h16:=hx.1.2.2.2.2.2.2.1
 have hgo:=hx.1.2.2.2.2.2.2.2
 have hml:=hx.2.2.1
 have hgl:=hx.2.2.2
 have hl:=z8d (nc:=nc) (nm:=nm) (ng:=ng) hd
 have h28:=z1ma (nc:=nc) (nm:=nm) (ng:=ng) hd
 have h29:=z1na (nc:=nc) (nm:=nm) (ng:=ng) hd
 have hg:=z8Ca (nc:=nc) (nm:=nm) (ng:=ng) hd
 have hlen:=z9d (z2c h16)
 have hHl:=z2jb hx
 have hc2:=z8pa hx.2.1
 have hp4:z6G.pre [.sl .plain (some false) 4 [i64 x.time,i64 x.kind,i64 x.req,i64 x.mode]]=True:=z5Va (some false) (z5mb hx.1) (by simp) rfl rfl
 have hq4:z6G.post [.sl .plain (some false) 4 [i64 x.time,i64 x.kind,i64 x.req,i64 x.mode]]=_:=z4Ca (l:=[x.time,x.kind,x.req,x.mode]) (some false) rfl
 have hpg:z6G.pre [.sl .plain ng x.gone.length (z4j x.gone)]=True:=z5Va ng hgo (by omega) rfl rfl
 have hqg:z6G.post [.sl .plain ng x.gone.length (z4j x.gone)]=_:=z4Ca (l:=x.gone) ng rfl
 have hgle:=z7ia hgo (by omega)
 have hib:=z8Ba (n:=(x.made.length:Int)) (by omega) (by omega)
 have hcp:z6x.pre [.sl .plain (some false) 4 [.sl (.own 1) (some false) (z0q [x.time,x.kind,x.req,x.mode]).length (bys (z0q [x.time,x.kind,x.req,x.mode])),.sl (.own 1) (some false) (z3U (z4Z x.cmd)).length (bys (z3U (z4Z x.cmd))),.sl .plain (some false) 16 (bys x.dig),.sl (.own 1) (some false) (z1t x.made.length).length (bys (z1t x.made.length))]]=True:=by
  have:=z2da (nl:=some false) (n:=4) (ps:=[(true,some false,z0q [x.time,x.kind,x.req,x.mode]),(true,some false,z3U (z4Z x.cmd)),(false,some false,x.dig),(true,some false,z1t x.made.length)]) (by
   have e:=hHl
   simp only[z7Ob,List.length_append] at e
   simp only[z6Rb,List.map_cons,List.map_nil,List.sum_cons,List.sum_nil]
   omega) (by simp) rfl
  rw[←hd]
  exact this
 have hcq:z6x.post [.sl .plain (some false) 4 [.sl (.own 1) (some false) (z0q [x.time,x.kind,x.req,x.mode]).length (bys (z0q [x.time,x.kind,x.req,x.mode])),.sl (.own 1) (some false) (z3U (z4Z x.cmd)).length (bys (z3U (z4Z x.cmd))),.sl .plain (some false) 16 (bys x.dig),.sl (.own 1) (some false) (z1t x.made.length).length (bys (z1t x.made.length))]]= .sl (.own 1) none (z7Ob x).length (bys (z7Ob x)):=by
  have:=z18 (some false) 4 [(true,some false,z0q [x.time,x.kind,x.req,x.mode]),(true,some false,z3U (z4Z x.cmd)),(false,some false,x.dig),(true,some false,z1t x.made.length)]
  simp only[List.flatMap_cons,List.flatMap_nil,List.append_nil] at this
  rw[←hd]
  exact this
 generalize hH:z7Ob x=H at*
 generalize hG:z0q x.gone=G at*
 generalize h4:z0q [x.time,x.kind,x.req,x.mode]=e4 at*
 generalize hSS:z3U (z4Z x.cmd)=eS at*
 generalize hN:z1t x.made.length=eN at*
 simp(maxSteps:=1000000) (disch:=first|omega|(simp;done)|(simp;omega)) [z9a,z1a,z0a,z4o,hl,h39,hp4,hq4,h130,z7Ga hx.2.1,z1sa,h7,z9va,hSS,hg,h28,h12,hib,hN,h129,hcp,hcq,-z1a,-List.length_append]
 refine z3a fun Q0 hQ0=> ?_
 refine z4d (fun i:Nat=>⟨[(0,.agg (z5l nc nm ng x))],[(1,.ep (z5l nc nm ng x)),(3,.sl (.own 1) none (H++(x.made.take i).flatMap z9Ca).length (bys (H++(x.made.take i).flatMap z9Ca))),(31,.sl .plain nm x.made.length (z6b x.made)),(32,i64 x.made.length),(33,i64 i)],[]⟩)
  (fun i=>x.made.length-i) (fun i=>i≤x.made.length) 0 (by simp) (by simp) fun i hi=> ?_
 refine z3a fun Q1 hQ1=> ?_
 have hBl:(H++(x.made.take i).flatMap z9Ca).length≤2000001000+97*i:=by
  have:=z0Ca (l:=x.made.take i) fun m hm=>h16 m (List.mem_of_mem_take hm)
  rw[List.length_append]
  rw[List.length_take] at this
  omega
 by_cases h1:i<x.made.length
 ·have hm:=h16 _ (z9T h1)
  have hmd:=hm.2.2.2.2.2.2.2
  have ha:=z4wa h16 h1
  have hmll:=z8k hmd
  have hle:24≤x.made.length*24-i*24:=by omega
  have hle2:i*24≤x.made.length*24:=by omega
  have hs:(x.made.take (i+1)).flatMap z9Ca=(x.made.take i).flatMap z9Ca++z9Ca (atD x.made i):=by
   rw[List.take_succ_eq_append_getElem h1,List.flatMap_append,z6T h1];simp
  have hnok:=z63a hm
  have e8l:=z7ia hnok (by simp[z4ja])
  generalize hX:atD x.made i=X at*
  have sp:splice (i64 0::i64 0::i64 0::i64 0::i64 0::i64 0::i64 0::bo false::bys (z4c 16)) 0 (z2n X)=z2n X:=z08 hmd rfl
  have mtk:=z98 hmd
  have nl8:(z4ja X).length=8:=rfl
  rw[nl8] at e8l
  have key:∀r:Int,z94c X.raw=r→z6G.pre [.sl .plain (some false) 8 [i64 X.id,i64 X.ty,i64 X.uses,i64 X.beg,i64 X.fin,i64 X.ver,i64 X.par,i64 r]]=True∧
    z6G.post [.sl .plain (some false) 8 [i64 X.id,i64 X.ty,i64 X.uses,i64 X.beg,i64 X.fin,i64 X.ver,i64 X.par,i64 r]]= .sl (.own 1) (some false) (z0q (z4ja X)).length (bys (z0q (z4ja X))):=by
   rintro r rfl
   exact⟨z5Va (l:=z4ja X) (some false) hnok (by rw[nl8];omega) rfl rfl,z4Ca (l:=z4ja X) (some false) rfl⟩
  have hcat:z9Ca X=z0q (z4ja X)++X.dig:=rfl
  generalize hE:z0q (z4ja X)=e8 at*
  generalize hB:H++(x.made.take i).flatMap z9Ca=B at*
  have hcp8:z6x.pre [.sl .plain (some false) 3 [.sl (.own 1) none B.length (bys B),.sl (.own 1) (some false) e8.length (bys e8),.sl .plain (some false) 16 (bys X.dig)]]=True:=by
   have:=z2da (nl:=some false) (n:=3) (ps:=[(true,none,B),(true,some false,e8),(false,some false,X.dig)]) (by
    simp only[z6Rb,List.map_cons,List.map_nil,List.sum_cons,List.sum_nil]
    omega) (by simp) rfl
   rw[←hmd]
   exact this
  have hcq8:z6x.post [.sl .plain (some false) 3 [.sl (.own 1) none B.length (bys B),.sl (.own 1) (some false) e8.length (bys e8),.sl .plain (some false) 16 (bys X.dig)]]= .sl (.own 1) none (B++z9Ca X).length (bys (B++z9Ca X)):=by
   have:=z18 (some false) 3 [(true,none,B),(true,some false,e8),(false,some false,X.dig)]
   simp only[List.flatMap_cons,List.flatMap_nil,List.append_nil] at this
   rw[←hmd,hcat]
   exact this
  have hs':H++(x.made.take (i+1)).flatMap z9Ca=B++z9Ca X:=by rw[hs,←List.append_assoc,hB]
  generalize hBX:B++z9Ca X=B' at*
  cases hr:X.raw
  ·obtain⟨k1,k2⟩:=key 0 (by rw[hr];rfl)
   simp(maxSteps:=1000000) (disch:=first|omega|(simp;done)|(simp;omega)) [z9a,z1a,z0a,z5z,z4K,z8K,kT,kF,dT,dF,h1,hlen,hle,hle2,ha,sp,hmll,mtk,z7n,z3r,hr,h39,k1,k2,h129,hcp8,hcq8,z6Gc hmd,hmd,hQ1,-z1a,-List.length_append]
   exact⟨i+1,by omega,by omega,⟨by rw[hs'],by rw[hs']⟩,by omega⟩
  ·obtain⟨k1,k2⟩:=key 1 (by rw[hr];rfl)
   simp(maxSteps:=1000000) (disch:=first|omega|(simp;done)|(simp;omega)) [z9a,z1a,z0a,z5z,z4K,z8K,kT,kF,dT,dF,h1,hlen,hle,hle2,ha,sp,hmll,mtk,z7n,z3r,hr,h39,k1,k2,h129,hcp8,hcq8,z6Gc hmd,hmd,hQ1,-z1a,-List.length_append]
   exact⟨i+1,by omega,by omega,⟨by rw[hs'],by rw[hs']⟩,by omega⟩
 ·obtain rfl:i=x.made.length:=by omega
  rw[List.take_length] at*
  generalize hB:H++x.made.flatMap z9Ca=B at*
  simp(maxSteps:=1000000) (disch:=first|omega|(simp;done)|(simp;omega)) [z9a,z1a,z0a,z5z,kT,kF,dT,dF,hQ1,hQ0,z9Y,hl,h29,h39,hpg,hqg,-List.length_append]
  exact⟨by omega,List.length_append,by rw[←hB,List.append_assoc]⟩
theorem z6vb (E:Env) (h302:E.G 302=z6La) (h8:E.G 8=ofC):∀ds,z4Ua.pre ds→ds.length=z2o.n∧awp E z2o.body (z1A z2o.res (z4Ua.post ds)) (z9c z2o.wr ds):=by
 rintro _ ⟨nc,nm,ng,x,hx,rfl⟩
 rw[z2ua hx]
 have hd:=hx.1.2.2.2.2.2.1
 have hl:=z8d (nc:=nc) (nm:=nm) (ng:=ng) hd
 have htk:=z1r (nc:=nc) (nm:=nm) (ng:=ng) hd
 have hle:(z6Aa x).length≤2200000000:=by
  have h1:=z2jb hx
  have h2:=z0Ca hx.1.2.2.2.2.2.2.1
  have h3:=z7ia hx.1.2.2.2.2.2.2.2 (by have:=hx.2.2.2;omega)
  have h4:=hx.2.2.1
  have h5:=hx.2.2.2
  rw[z7Mb,List.length_append,List.length_append]
  omega
 have hp:ofC.pre [i64 8,.sl .plain (some false) 1 [st (z6Aa x)]]=True:=z6Qb (l:=[z6Aa x]) rfl (by rw[z45c];omega)
 simp(maxSteps:=1000000) (disch:=first|omega|(simp;done)|(simp;omega)) [z9a,z1a,z0a,z2o,hl,htk,h302,z41a hx,z7qa hx,h8,hp,z6n,z9q,z0z,z1Ea,z8A]
end Go.Abs
end

section
namespace Go.Abs
set_option maxRecDepth 100000
def rdE (nb:Option Bool) (b:List UInt8):List z2a:=[.sl .plain nb b.length (bys b),i64 0]
def qN (ds:List z2a):Option Bool:=gNl (nth (gCs (nth ds 0)) 0)
def qB (ds:List z2a):List UInt8:=gBs (gCs (nth (gCs (nth ds 0)) 0))
@[simp] theorem qN_e (nb:Option Bool) (b:List UInt8) (n:Nat) (x:z2a) (r:List z2a):qN (.ep [.sl .plain nb n (bys b),x]::r)=nb:=by simp[qN,gNl,nth]
@[simp] theorem qB_e (nb:Option Bool) (b:List UInt8) (n:Nat) (x:z2a) (r:List z2a):qB (.ep [.sl .plain nb n (bys b),x]::r)=b:=by simp[qB,nth]
def z8ba:CM:=⟨[0],[],fun ds=>∃(nb:Option Bool) (b:List UInt8),ds=[.ep (rdE nb b),bo true,i64 6],fun _=>bo true,fun ds _=>rdE (qN ds) (qB ds)⟩
def rdM (f:Nat) (v:List UInt8→z2a) (u e:List UInt8→Nat):CM:=⟨[0],[],fun ds=>∃(nb:Option Bool) (b:List UInt8),b.length≤1000000000∧e b=0∧u b≤b.length∧ds=[.ep (rdE nb b),.fn f [] []],fun ds=>v (qB ds),fun ds _=>rdE (qN ds) ((qB ds).drop (u (qB ds)))⟩
def z2Q:CM:=rdM 45 (fun b=>i64 (z6l b).1) (fun b=>(z6l b).2.1) (fun b=>(z6l b).2.2)
def z0Q:CM:=rdM 48 (fun b=>st (z9ea b).1) (fun b=>(z9ea b).2.1) (fun b=>(z9ea b).2.2)
def z0v:CM:=rdM 52 (fun b=> .sl .plain none (z5x z6l 1 b).1.length (z4j (z5x z6l 1 b).1)) (fun b=>(z5x z6l 1 b).2.1) (fun b=>(z5x z6l 1 b).2.2)
def z3Q:CM:=rdM 320 (fun b=> .agg (bys (b.take 16))) (fun _=>16) (fun b=>if b.length<16 then 5 else 0)
def z9Ma:z5a:=⟨fun ds=>∃(nl:Option Bool) (b:List UInt8),16≤b.length∧b.length≤1000000000∧ds=[.sl .plain nl b.length (bys b)],fun ds=> .tup [.agg (bys ((gBs (gCs (nth ds 0))).take 16)),i64 16,i64 0]⟩
theorem z3Fb {nl:Option Bool} {n:Nat} {b:List UInt8} (h:16≤b.length) (h':b.length≤1000000000) (hn:n=b.length):z9Ma.pre [.sl .plain nl n (bys b)]=True:=eq_true ⟨nl,b,h,h',by rw[hn]⟩
theorem z4La (nl:Option Bool) (n:Nat) (b:List UInt8):z9Ma.post [.sl .plain nl n (bys b)]= .tup [.agg (bys (b.take 16)),i64 16,i64 0]:=by simp[z9Ma,nth]
theorem sp16 {b:List UInt8} (h:16≤b.length):splice (bys (z4c 16)) 0 (bys (b.take 16))=bys (b.take 16):=by
 have hl:(bys (b.take 16)).length=16:=by simp[h]
 rw[splice,hl]
 simp[z4c,bys]
theorem tk16 {b:List UInt8} (h:16≤b.length):(bys (b.take 16)).take 16=bys (b.take 16):=List.take_of_length_le (by simp;omega)
theorem ln16 {b:List UInt8} (h:16≤b.length):(bys (b.take 16)).length=16:=by simp[h]
theorem tkd (b:List UInt8) (n:Nat):(b.drop n).take (b.length-n)=b.drop n:=List.take_of_length_le (by simp)
theorem z32b (E:Env):∀ds,z9Ma.pre ds→ds.length=z7o.n∧awp E z7o.body (z1A z7o.res (z9Ma.post ds)) (z9c z7o.wr ds):=by
 rintro _ ⟨nl,b,h,h',rfl⟩
 rw[z4La]
 have h1:¬b.length<16:=by omega
 have h2:(b.take 16).take 16=b.take 16:=List.take_of_length_le (by simp;omega)
 simp(maxSteps:=1000000) (disch:=first|omega|(simp;done)|(simp;omega)) [z9a,z1a,z0a,z7o,z41,z2Z,z90,h,h1,kF,dF,kT,dT]
 rw[h2,sp16 h,tk16 h,ln16 h]
 exact⟨by omega,by omega,rfl⟩
theorem z1ac (E:Env):∀ds p,z8ba.pre ds→ds.length=z8i.n∧awp E z8i.body (z9Va z8i.res z8ba p ds) (z4da z8ba.bx p ds):=by
 rintro _ p ⟨nb,b,rfl⟩
 simp(maxSteps:=1000000) (disch:=first|omega|(simp;done)|(simp;omega)) [z9a,z1a,z0a,z8i,z0I,z3I,z8G,kT,kF,dT,dF,z8ba,rdE]
theorem z9Ab (E:Env) (h45:E.G 45=z7K):∀ds p,z2Q.pre ds→ds.length=z9f.n∧awp E z9f.body (z9Va z9f.res z2Q p ds) (z4da z2Q.bx p ds):=by
 rintro _ p ⟨nb,b,hb,he,hu,rfl⟩
 simp(maxSteps:=1000000) (disch:=first|omega|(simp;done)|(simp;omega)) [z9a,z1a,z0a,z9f,z8y,z7y,z4y,z1y,z2y,z6y,z0y,kT,kF,dT,dF,z2Q,rdM,rdE,h45,z7K,z5ea,vI,z3p,he,hu,tkd]
theorem z0ub (E:Env) (h48:E.G 48=z0T):∀ds p,z0Q.pre ds→ds.length=z9e.n∧awp E z9e.body (z9Va z9e.res z0Q p ds) (z4da z0Q.bx p ds):=by
 rintro _ p ⟨nb,b,hb,he,hu,rfl⟩
 simp(maxSteps:=1000000) (disch:=first|omega|(simp;done)|(simp;omega)) [z9a,z1a,z0a,z9e,z8u,z5u,z9u,z3t,z2u,z7u,z8t,kT,kF,dT,dF,z0Q,rdM,rdE,h48,z0T,z5ea,z3p,he,hu,tkd]
theorem z6fb (E:Env) (h52:E.G 52=z83):∀ds p,z0v.pre ds→ds.length=z4f.n∧awp E z4f.body (z9Va z4f.res z0v p ds) (z4da z0v.bx p ds):=by
 rintro _ p ⟨nb,b,hb,he,hu,rfl⟩
 simp(maxSteps:=1000000) (disch:=first|omega|(simp;done)|(simp;omega)) [z9a,z1a,z0a,z4f,z0w,z3w,z1w,z8w,z8v,z1x,z6v,kT,kF,dT,dF,z0v,rdM,rdE,h52,z83,z5ea,vIs,z3p,he,hu,tkd]
theorem z4Hb (E:Env) (h320:E.G 320=z9Ma):∀ds p,z3Q.pre ds→ds.length=z3f.n∧awp E z3f.body (z9Va z3f.res z3Q p ds) (z4da z3Q.bx p ds):=by
 rintro _ p ⟨nb,b,hb,he,hu,rfl⟩
 have h16:16≤b.length:=hu
 simp(maxSteps:=1000000) (disch:=first|omega|(simp;done)|(simp;omega)) [z9a,z1a,z0a,z3f,z5w,z7v,z9w,z0x,z5v,z4v,z4w,kT,kF,dT,dF,z3Q,rdM,rdE,h320,z3Fb,z4La,he,hu,h16,tkd]
 simp only[sp16 h16,tk16 h16,ln16 h16]
 simp
 omega
end Go.Abs
end

section
namespace Go.Abs
set_option maxRecDepth 100000
theorem z1pa (nb:Option Bool) (b:List UInt8):z8ba.pre [.ep [.sl .plain nb b.length (bys b),i64 0],bo true,i64 6]=True:=eq_true ⟨nb,b,rfl⟩
theorem z81 (ds:List z2a):z8ba.post ds=bo true:=rfl
theorem z4ga (nb:Option Bool) (b:List UInt8) (n j:Nat) (r:List z2a):z8ba.out (.ep [.sl .plain nb n (bys b),i64 0]::r) j=[.sl .plain nb b.length (bys b),i64 0]:=by simp[z8ba,rdE]
@[simp] theorem z6Yc:z8ba.bx=[0]:=rfl
@[simp] theorem z5Zc:z8ba.nb=[]:=rfl
@[simp] theorem z5Oc:z2Q.bx=[0]:=rfl
@[simp] theorem z4Kc:z2Q.nb=[]:=rfl
@[simp] theorem z4Tc:z0Q.bx=[0]:=rfl
@[simp] theorem z5Lc:z0Q.nb=[]:=rfl
@[simp] theorem z2Dc:z0v.bx=[0]:=rfl
@[simp] theorem z7nc:z0v.nb=[]:=rfl
@[simp] theorem z6Kc:z3Q.bx=[0]:=rfl
@[simp] theorem z7Lc:z3Q.nb=[]:=rfl
theorem z7Ja {nb:Option Bool} {b:List UInt8} {n:Nat} (hb:b.length≤1000000000) (he:(z6l b).2.2=0) (hn:n=b.length):z2Q.pre [.ep [.sl .plain nb n (bys b),i64 0],.fn 45 [] []]=True:=eq_true ⟨nb,b,hb,he,(z4ia b).1,by rw[hn];rfl⟩
theorem z7Aa (nb:Option Bool) (b:List UInt8) (n:Nat) (r:List z2a):z2Q.post (.ep [.sl .plain nb n (bys b),i64 0]::r)=i64 (z6l b).1:=by simp[z2Q,rdM]
theorem z1Ma (nb:Option Bool) (b:List UInt8) (n j:Nat) (r:List z2a):z2Q.out (.ep [.sl .plain nb n (bys b),i64 0]::r) j=[.sl .plain nb (b.drop (z6l b).2.1).length (bys (b.drop (z6l b).2.1)),i64 0]:=by simp[z2Q,rdM,rdE]
theorem z3ua {nb:Option Bool} {b:List UInt8} {n:Nat} (hb:b.length≤1000000000) (he:(z9ea b).2.2=0) (hn:n=b.length):z0Q.pre [.ep [.sl .plain nb n (bys b),i64 0],.fn 48 [] []]=True:=eq_true ⟨nb,b,hb,he,(z9jb b).1,by rw[hn];rfl⟩
theorem z2ya (nb:Option Bool) (b:List UInt8) (n:Nat) (r:List z2a):z0Q.post (.ep [.sl .plain nb n (bys b),i64 0]::r)=st (z9ea b).1:=by simp[z0Q,rdM]
theorem z5Ia (nb:Option Bool) (b:List UInt8) (n j:Nat) (r:List z2a):z0Q.out (.ep [.sl .plain nb n (bys b),i64 0]::r) j=[.sl .plain nb (b.drop (z9ea b).2.1).length (bys (b.drop (z9ea b).2.1)),i64 0]:=by simp[z0Q,rdM,rdE]
theorem z52 {nb:Option Bool} {b:List UInt8} {n:Nat} (hb:b.length≤1000000000) (he:(z5x z6l 1 b).2.2=0) (hn:n=b.length):z0v.pre [.ep [.sl .plain nb n (bys b),i64 0],.fn 52 [] []]=True:=eq_true ⟨nb,b,hb,he,(z0Bb (enc:=z1t) (P:=z2l) z0vb he).1,by rw[hn];rfl⟩
theorem z34 (nb:Option Bool) (b:List UInt8) (n:Nat) (r:List z2a):z0v.post (.ep [.sl .plain nb n (bys b),i64 0]::r)= .sl .plain none (z5x z6l 1 b).1.length (z4j (z5x z6l 1 b).1):=by simp[z0v,rdM]
theorem z1ba (nb:Option Bool) (b:List UInt8) (n j:Nat) (r:List z2a):z0v.out (.ep [.sl .plain nb n (bys b),i64 0]::r) j=[.sl .plain nb (b.drop (z5x z6l 1 b).2.1).length (bys (b.drop (z5x z6l 1 b).2.1)),i64 0]:=by simp[z0v,rdM,rdE]
theorem z0La {nb:Option Bool} {b:List UInt8} {n:Nat} (hb:b.length≤1000000000) (he:16≤b.length) (hn:n=b.length):z3Q.pre [.ep [.sl .plain nb n (bys b),i64 0],.fn 320 [] []]=True:=eq_true ⟨nb,b,hb,if_neg (by omega),he,by rw[hn];rfl⟩
theorem z1Ba (nb:Option Bool) (b:List UInt8) (n:Nat) (r:List z2a):z3Q.post (.ep [.sl .plain nb n (bys b),i64 0]::r)= .agg (bys (b.take 16)):=by simp[z3Q,rdM]
theorem z9Ia (nb:Option Bool) (b:List UInt8) (n j:Nat) (r:List z2a):z3Q.out (.ep [.sl .plain nb n (bys b),i64 0]::r) j=[.sl .plain nb (b.drop 16).length (bys (b.drop 16)),i64 0]:=by simp[z3Q,rdM,rdE]
/-! ### the command -/
def z5da:CM:=⟨[0],[],fun ds=>∃(nb:Option Bool) (b:List UInt8),ds=[.ep (rdE nb b),st (z4Z dEx)],fun _=> .agg (z1q dEx none),fun ds _=>rdE (qN ds) (qB ds)⟩
theorem z66a:∃(s b1:List UInt8) (u1 u2:Nat) (c:Cmd),z4Z dEx=s∧dEx=c∧s.length≤100000000∧z2pa 6 s=(six c,b1,0)∧z9ea b1=(c.data,u1,0)∧z5x z6l 1 (b1.drop u1)=(c.list,u2,0)∧(b1.drop u1).drop u2=[]:=by
 exact⟨z4Z dEx,(z2pa 6 (z4Z dEx)).2.1,(z9ea (z2pa 6 (z4Z dEx)).2.1).2.1,(z5x z6l 1 ((z2pa 6 (z4Z dEx)).2.1.drop (z9ea (z2pa 6 (z4Z dEx)).2.1).2.1)).2.1,dEx,rfl,rfl,by decide+kernel,by kernel_rfl,by kernel_rfl,by kernel_rfl,by kernel_rfl⟩
theorem z1bd (a b c d e f:Int):z4j [a,b,c,d,e,f]=[i64 a,i64 b,i64 c,i64 d,i64 e,i64 f]:=rfl
theorem z4Ha (nb:Option Bool):z8ba.pre [.ep [.sl .plain nb 0 [],i64 0],bo true,i64 6]=True:=eq_true ⟨nb,[],rfl⟩
theorem z2Ja (nb:Option Bool) (j:Nat) (r:List z2a):z8ba.out (.ep [.sl .plain nb 0 [],i64 0]::r) j=[.sl .plain nb 0 [],i64 0]:=z4ga nb [] 0 j r
def c00:Cmd:=⟨0,0,0,0,0,0,[],[]⟩
def z0tc (nb:Option Bool) (b:List UInt8) (p:Value) (i:Nat) (L:List Int) (t:List UInt8):ASt:=⟨[(0,.lit p)],[(0,.bp 0 0),(4,.bp 4 0),(5,.bp 15 0),(22,.bv 22 1 0 6 6),(23,i64 6),(24,i64 i)],
 [(0,some [.sl .plain nb b.length (bys b),i64 0]),(4,some (z4j (z0bb L c00)++[st [],.sl .plain none 0 []])),(15,some [.sl .plain (some false) t.length (bys t),i64 0]),(22,some [.bp 4 0,.bp 4 1,.bp 4 2,.bp 4 3,.bp 4 4,.bp 4 5])]⟩
theorem hp4 {i:Nat} (h:i<6):hdA (([.bp 4 0,.bp 4 1,.bp 4 2,.bp 4 3,.bp 4 4,.bp 4 5]:List z2a).drop i)= .bp 4 i:=by
 match i,h with
 |0,_|1,_|2,_|3,_|4,_|5,_=>rfl
theorem gp4 {i:Nat} (h:i<6):∀h':i<([.bp 4 0,.bp 4 1,.bp 4 2,.bp 4 3,.bp 4 4,.bp 4 5]:List z2a).length,([.bp 4 0,.bp 4 1,.bp 4 2,.bp 4 3,.bp 4 4,.bp 4 5]:List z2a)[i]= .bp 4 i:=by
 intro h'
 match i,h with
 |0,_|1,_|2,_|3,_|4,_|5,_=>rfl
set_option maxHeartbeats 4000000 in
theorem z2Vb (E:Env) (h316:E.M 316=z8ba) (h323:E.M 323=z0v) (h324:E.M 324=z0Q) (h326:E.M 326=z2Q):∀ds p,z5da.pre ds→ds.length=z4e.n∧awp E z4e.body (z9Va z4e.res z5da p ds) (z4da z5da.bx p ds):=by
 rintro _ p ⟨nb,b,rfl⟩
 obtain⟨s,b1,u1,u2,c,hs,hc,hsl,g1,g2,g3,g4⟩:=z66a
 have hpost:z9Va z4e.res z5da p [.ep (rdE nb b),st (z4Z dEx)]=z9Va z4e.res ⟨[0],[],fun _=>True,fun _=> .agg (z1q c none),fun _ _=>rdE nb b⟩ p [.ep (rdE nb b),st s]:=by
  unfold z9Va
  simp only[z5da,hs,hc,rdE,qN_e,qB_e]
 rw[hs] at*
 rw[hpost,show z5da.bx=[0] from rfl]
 simp(maxSteps:=1000000) (disch:=first|omega|(simp;done)|(simp;omega)) [z9a,z1a,z0a,z4e,z1B,rdE]
 refine z3a fun Q0 hQ0=> ?_
 simp(maxSteps:=1000000) (disch:=first|omega|(simp;done)|(simp;omega)) [z9a,z1a,z0a,z5B]
 refine z4d (fun q:Nat×List Int×List UInt8=>z0tc nb b (p 0) q.1 q.2.1 q.2.2) (fun q=>6-q.1) (fun q=>q.1≤6∧q.2.1.length=q.1∧q.2.2.length≤100000000∧(six c,b1,0)=(q.2.1++(z2pa (6-q.1) q.2.2).1,(z2pa (6-q.1) q.2.2).2)) (0,[],s) (by simp[z0tc,z0bb,six,z4j,c00]) ⟨Nat.zero_le _,rfl,hsl,by rw[←g1];rfl⟩ fun q hq=> ?_
 obtain⟨i,L,t⟩:=q
 obtain⟨hi,hl,ht,hE⟩:=hq
 simp only at hi hl ht hE
 refine z3a fun Q1 hQ1=> ?_
 have hlen:=z9zb (c:=c00) (show L.length≤6 by omega)
 by_cases h6:i<6
 ·obtain⟨k,hk⟩:∃k,6-i=k+1:=⟨5-i,by omega⟩
  rw[hk] at hE
  obtain⟨e1,e2,e3⟩:=z4ia t
  by_cases he:(z6l t).2.2=0
  ·rw[z1Jc he] at hE
   have hsp:splice (z4j (z0bb L c00)++[st [],.sl .plain none 0 []]) i [i64 (z6l t).1]=z4j (z0bb (L++[(z6l t).1]) c00)++[st [],.sl .plain none 0 []]:=by
    rw[z04 (by simp[hlen];omega),z4Sa (by omega),←hl,z8Hb (by omega)]
   simp(maxSteps:=1000000) (disch:=first|omega|(simp;done)|(simp;omega)) [z9a,z1a,z0a,z5q,z2q,z0C,h6,hp4 h6,gp4 h6,kT,kF,dT,dF,he,z0tc]
   simp(maxSteps:=1000000) (disch:=first|omega|(simp;done)|(simp;omega)) [z9a,z1a,z0a,z6A,h326,z7Ja,z7Aa,z1Ma,he,kT,kF,dT,dF,z0Ka,hsp,hQ1]
   refine⟨by omega,by omega,by simp[z3v],by omega,i+1,by omega,L++[(z6l t).1],t.drop (z6l t).2.1,⟨by omega,by simp[hl],by simp;omega,?_⟩,?_⟩
   ·have e4:=congrArg Prod.fst hE
    have e5:=congrArg Prod.snd hE
    rw[show 6-(i+1)=k by omega]
    simp only at e4 e5
    exact⟨by rw[e4];simp,e5⟩
   ·simp[z0tc]
  ·rw[z4nc he] at hE
   simp at hE
   exact absurd hE.2.2.symm he
 ·obtain rfl:i=6:=by omega
  have e0:six c=L∧b1=t:=by simpa[z2pa] using hE
  obtain⟨e0,rfl⟩:=e0
  have hx:z0bb L c00=six c:=by rw[←e0];exact z8Dc rfl
  clear hE hlen e0
  obtain⟨a0,a1,a2,a3,a4,a5,dt,ls⟩:=c
  simp(maxSteps:=1000000) (disch:=first|omega|(simp;done)|(simp;omega)) [z9a,z1a,z0a,z5q,z2q,h6,kT,kF,dT,dF,z0tc,hQ1,hQ0,hx,six,z1bd]
  simp(maxSteps:=1000000) (disch:=first|omega|(simp;done)|(simp;omega)) [z9a,z1a,z0a,z4B,z9B,h324,z3ua,z2ya,z5Ia,g2,kT,kF,dT,dF]
  simp(maxSteps:=1000000) (disch:=first|omega|(simp;done)|(simp;omega)) [z9a,z1a,z0a,z5A,h323,z52,z34,z1ba,g3,g4,kT,kF,dT,dF]
  simp(maxSteps:=1000000) (disch:=first|omega|(simp;done)|(simp;omega)) [z9a,z1a,z0a,z4A,z9z,h316,z4Ha,z81,z2Ja,kT,kF,dT,dF,z1q,rdE]
  exact⟨⟨by simp[z3v],of_eq_true (z3ua (by omega) (by rw[g2]) rfl)⟩,⟨by simp[z3v],of_eq_true (z52 (by simp;omega) (by rw[g3]) (by simp))⟩,by rw[z8f rfl];simp,by rw[z8f rfl];rfl⟩
end Go.Abs
end
