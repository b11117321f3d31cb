/- Lemmas: an abstract interpreter, and what the functions compute. -/
import Derived.Test.YtepddcbbkhdfiaaGreatDoorG
import Derived.Test.YtepddcbbkhdfiaaGreatDoorH
import Derived.Test.YtepddcbbkhdfiaaGreatDoorR
set_option linter.unusedSimpArgs false
set_option linter.unusedVariables false
set_option linter.unusedSectionVars false
section
namespace Go.Abs
set_option maxRecDepth 100000
def z3xa:z3a:=
 Yq (.block 1 (Yr [3,5,9,10,11] [Yi 13 1 9 11,Yj 14 13,Ym 5 14] (Yu [3,9,10,11] [YM 15 3,Ym 16 5,Yk 17 12 16,Yo 18 (.append 1 1 false (some false) none 15 (.s 17)),YM 3 18]))) (Yu [3,9,10,11] [YB 19 .add 11 1,Ym 11 19])
def z2xa:z3a:=
 Yr [3,9,10,11,12] [Yb 12 .lss 11 10] (Yq (Yd 12 (Yy [3,9,10,11]) (YY [3])) z3xa)
def z5va:z3a:=
 Yr [2] [YM 20 3,YM 2 20] .ret
def z3C:z6e:=
 {n:=1,wr:=[],res:=[.t 2],body:=Yr [] [Yo 2 (.mv true (.c (.sl (.own 1) none 0 [])))] (Yr [3] [Ym 6 0,Yn 7 6,Yk 8 12 7,YM 3 8] (Yq (Yr [3,9,10,11] [Ym 9 0,Yn 10 9,Yc 11 0] (.block 0 (.loop z2xa))) z5va))}
def z3ma:z3a:=
 Yq (.block 1 (Yu [3,4] [YM 14 3,Ym 15 0,Ym 16 4,Yi 17 1 15 16,Yj 18 17,Yk 19 30 18,Yo 20 (.append 1 1 false none none 14 (.s 19)),YM 3 20])) (Yu [3,4] [Ym 12 4,YB 13 .add 12 1,Ym 4 13])
def z9ma:z3a:=
 Yq (Yr [3,4,11] [Ym 8 4,Ym 9 0,Yn 10 9,Yb 11 .lss 8 10] (Yd 11 (Yy [3,4]) (YY [3]))) z3ma
def z3la:z3a:=
 Yr [2] [YM 21 3,YM 2 21] .ret
def z5za:z6e:=
 {n:=1,wr:=[],res:=[.t 2],body:=Yr [] [Yo 2 (.mv true (.c (.sl (.own 1) none 0 [])))] (Yr [3] [Ym 5 0,Yn 6 5,Yk 7 30 6,YM 3 7] (Yq (Yr [3,4] [Yc 4 0] (.block 0 (.loop z9ma))) z3la))}
def z0Ja:z3a:=
 Yq (.block 1 (Yr [3,5,9,10,11] [Yi 13 1 9 11,Yj 14 13,Ym 5 14] (Yu [3,9,10,11] [YM 15 3,Ym 16 5,Yk 17 7 16,Yo 18 (.append 1 1 false (some false) none 15 (.s 17)),YM 3 18]))) (Yu [3,9,10,11] [YB 19 .add 11 1,Ym 11 19])
def z8Ga:z3a:=
 Yr [3,9,10,11,12] [Yb 12 .lss 11 10] (Yq (Yd 12 (Yy [3,9,10,11]) (YY [3])) z0Ja)
def z7Ha:z3a:=
 Yr [2] [YM 20 3,YM 2 20] .ret
def z63a:z6e:=
 {n:=1,wr:=[],res:=[.t 2],body:=Yr [] [Yo 2 (.mv true (.c (.sl (.own 1) none 0 [])))] (Yr [3] [Ym 6 0,Yn 7 6,Yk 8 12 7,YM 3 8] (Yq (Yr [3,9,10,11] [Ym 9 0,Yn 10 9,Yc 11 0] (.block 0 (.loop z8Ga))) z7Ha))}
def z7Ka:z3a:=
 Yq (.block 1 (YR [3,5,9,10,11] [.norm [5]] [Yi 13 16 9 11,YJ 14 16 13,Yz 5 5 16,Ys 16 5 5 14] (Yu [3,9,10,11] [YM 15 3,Yo 16 (.slArr 16 1 (.s 5) none none none),Yo 17 (.append 1 1 false (some false) (some 5) 15 (.s 16)),YM 3 17]))) (.region [3,9,10,11] [.drop [5]] [YB 18 .add 11 1,Ym 11 18])
def z3Ja:z3a:=
 Yr [3,9,10,11,12] [Yb 12 .lss 11 10] (Yq (Yd 12 (Yy [3,9,10,11]) (YY [3])) z7Ka)
def z0Ma:z3a:=
 Yr [2] [YM 19 3,YM 2 19] .ret
def z84a:z6e:=
 {n:=1,wr:=[],res:=[.t 2],body:=Yr [] [Yo 2 (.mv true (.c (.sl (.own 1) none 0 [])))] (Yr [3] [Ym 6 0,Yn 7 6,Yk 8 12 7,YM 3 8] (Yq (Yr [3,9,10,11] [Ym 9 0,Yn 10 9,Yc 11 0] (.block 0 (.loop z3Ja))) z0Ma))}
def z4Oa:z3a:=
 Yq (.block 2 (Yr [5,6,7,9,46,47,48] [Yi 50 1 46 48,Yj 51 50,Ym 9 51] (Yu [5,6,7,46,47,48] [Ym 52 7,Yo 53 (.bin .shl (.s 52) (.c (u64 8))),Ym 54 9,Ym 55 5,Yb 56 .xor 54 55,Yo 57 (.toInt .u64 (.s 56)),Yb 58 .or 53 57,Ym 7 58]))) (Yu [5,6,7,46,47,48] [YB 59 .add 48 1,Ym 48 59])
def z6Oa:z3a:=
 Yr [5,6,7,46,47,48,49] [Yb 49 .lss 48 47] (Yq (Yd 49 (Yy [5,6,7,46,47,48]) (.ghost (.keep [5,6,7]) (.exit 1))) z4Oa)
def z5Pa:z3a:=
 Yr [2,3,4] [Ym 67 7,Yo 68 (.toInt .i64 (.s 67)),Ym 69 6,YB 70 .add 69 1,Ym 2 68,Ym 3 70,Yc 4 0] .ret
def z4Pa:z3a:=
 Yq (Yr [6,7,64] [Ym 63 5,Yo 64 (.bin .gtr (.s 63) (.c (u8 0)))] (Yd 64 (Yu [6,7] [Ym 65 7,Yo 66 (.un .xor (.s 65)),Ym 7 66]) (Yy [6,7]))) z5Pa
def z5Oa:z3a:=
 Yq (Yr [5,6,7,62] [Ym 60 7,Yo 61 (.bin .shr (.s 60) (.c (u64 63))),Yo 62 (.bin .gtr (.s 61) (.c (u64 0)))] (Yd 62 (Yr [2,3,4] [Yc 2 0,Yc 3 0,Yc 4 6] .ret) (Yy [5,6,7]))) z4Pa
def z9Oa:z3a:=
 Yr [5,6,7] [Yo 7 (.mv false (.c (u64 0)))] (Yq (Yr [5,6,7,46,47,48] [Ym 43 0,Ym 44 6,YB 45 .add 44 1,Yo 46 (.slSl 1 (.s 43) (some (.c (i64 1))) (some (.s 45)) none),Yn 47 46,Yc 48 0] (.block 1 (.loop z6Oa))) z5Oa)
def z0Pa:z3a:=
 Yr [5,6] [Ym 17 0,Yo 18 (.idxSl 1 (.s 17) (.c (i64 0))),Yj 19 18,Ym 20 5,Yb 21 .xor 19 20,Yo 22 (.toInt .i64 (.s 21)),YB 23 .sub 22 128,Ym 6 23] (Yq (.block 0 (Yr [5,6,24] [Ym 25 6,YB 26 .gtr 25 8,Ym 24 26] (Yd 24 (Yr [2,3,4] [Yc 2 0,Yc 3 0,Yc 4 6] .ret) (Yr [5,6,27] [Ym 28 0,Yn 29 28,Ym 30 6,Yb 31 .leq 29 30,Ym 27 31] (Yd 27 (Yr [2,3,4] [Yc 2 0,Yc 3 0,Yc 4 5] .ret) (Yr [5,6,32] [Ym 33 6,YB 34 .gtr 33 0,Ym 35 34,YG 35 (Ym 36 0),YG 35 (Yo 37 (.idxSl 1 (.s 36) (.c (i64 1)))),YG 35 (Yj 38 37),YG 35 (Ym 39 5),YG 35 (Yb 40 .xor 38 39),YG 35 (Yo 41 (.bin .eql (.s 40) (.c (u8 0)))),Yp 42 35 41,Ym 32 42] (Yd 32 (Yr [2,3,4] [Yc 2 0,Yc 3 0,Yc 4 6] .ret) (Yy [5,6])))))))) z9Oa)
def z1Pa:z3a:=
 Yr [5] [Yo 5 (.mv false (.c (u8 0)))] (Yq (Yr [5,16] [Ym 13 0,Yo 14 (.idxSl 1 (.s 13) (.c (i64 0))),Yj 15 14,Yo 16 (.bin .lss (.s 15) (.c (u8 128)))] (Yd 16 (Yu [5] [Yo 5 (.mv false (.c (u8 255)))]) (Yy [5]))) z0Pa)
def z0eb:z6e:=
 {n:=1,wr:=[],res:=[.t 2,.t 3,.t 4],body:=Yr [] [Yc 2 0,Yc 3 0,Yc 4 0] (Yq (Yr [12] [Ym 10 0,Yn 11 10,YB 12 .eql 11 0] (Yd 12 (Yr [2,3,4] [Yc 2 0,Yc 3 0,Yc 4 5] .ret) (Yy []))) z1Pa)}
def z8Ba:z3a:=
 Yr [2,3,4] [Ym 17 0,Ym 18 6,Ym 19 6,Ym 20 5,Yb 21 .add 19 20,Yo 22 (.slSl 1 (.s 17) (some (.s 18)) (some (.s 21)) none),Yo 23 (.toStr none (.s 22)),Ym 24 6,Ym 25 5,Yb 26 .add 24 25,Ym 2 23,Ym 3 26,Yc 4 0] .ret
def z5Ua:z6e:=
 {n:=1,wr:=[],res:=[.t 2,.t 3,.t 4],body:=Yr [] [Yo 2 (.mv false (.c (st []))),Yc 3 0,Yc 4 0] (Yr [5,6,7] [Ym 9 0,Yo 10 (.call 47 [.s 9,.c (i64 1)] []),Ym 8 10,Ye 11 0 8,Ye 12 1 8,Ye 13 2 8,Ym 5 11,Ym 6 12,Ym 7 13] (Yq (Yr [5,6,7,15] [Ym 14 7,YB 15 .neq 14 0] (Yd 15 (Yr [2,3,4] [Ym 16 7,Yo 2 (.mv false (.c (st []))),Yc 3 0,Ym 4 16] .ret) (Yy [5,6]))) z8Ba))}
def z6Ja:z3a:=
 Yu [6,8,9,25,26] [YM 37 9,Ym 38 10,Yo 39 (.buildSl 1 1 [i64 0] [(0,1,.s 38)]),Yo 40 (.append 1 8 false none none 37 (.s 39)),Ym 41 11,YM 9 40,Ym 6 41]
def z3Ka:z3a:=
 Yq (.block 1 (YR [8,9,10,11,12,25,26] [.norm [24,1024]] [Ym 29 8,Yo 30 (.callm 61 (some (.s 29)) [] [(0,24),(1,1024)] []),Ym 28 30,Ye 31 0 28,Ye 32 1 28,Ye 33 2 28,Ym 10 31,Ym 11 32,Ym 12 33] (Yq (Yr [8,9,10,11,12,25,26,35] [Ym 34 12,YB 35 .neq 34 0] (Yd 35 (Yr [2,3,4] [Ym 36 12,Yo 2 (.mv true (.c (.sl (.own 1) none 0 []))),Yc 3 0,Ym 4 36] .ret) (Yy [8,9,10,11,25,26]))) z6Ja))) (Yu [6,8,9,25,26] [YB 42 .add 26 1,Ym 26 42])
def z2La:z3a:=
 Yr [6,8,9,25,26,27] [Yb 27 .lss 26 25] (Yq (Yd 27 (Yy [8,9,25,26]) (YY [6,9])) z3Ka)
def z0Ia:z3a:=
 Yr [2,3,4] [YM 43 9,Ym 44 6,YM 2 43,Ym 3 44,Yc 4 0] .ret
def z2Ma:z3a:=
 YR [5,6,8] [.norm [24,1024]] [Ym 22 0,Ym 23 6,Yo 24 (.callm 51 none [.s 22,.s 23] [] [(2,24),(3,1024)]),Ym 8 24] (Yr [5,6,8,9] [Yo 9 (.mv true (.c (.sl (.own 1) none 0 [])))] (Yq (Yr [6,8,9,25,26] [Ym 25 5,Yc 26 0] (.block 0 (.loop z2La))) z0Ia))
def z15a:z6e:=
 {n:=1,wr:=[],res:=[.t 2,.t 3,.t 4],body:=Yr [] [Yo 2 (.mv true (.c (.sl (.own 1) none 0 []))),Yc 3 0,Yc 4 0] (Yr [5,6,7] [Ym 14 0,Yo 15 (.call 47 [.s 14,.c (i64 1)] []),Ym 13 15,Ye 16 0 13,Ye 17 1 13,Ye 18 2 13,Ym 5 16,Ym 6 17,Ym 7 18] (Yq (Yr [5,6,7,20] [Ym 19 7,YB 20 .neq 19 0] (Yd 20 (Yr [2,3,4] [Ym 21 7,Yo 2 (.mv true (.c (.sl (.own 1) none 0 []))),Yc 3 0,Ym 4 21] .ret) (Yy [5,6]))) z2Ma))}
def z6A:z3a:=
 Yq (.block 1 (Yr [5,25] [Ym 17 0,Ym 18 5,Yi 19 1 17 18,Yj 20 19,Ym 21 1,Ym 22 5,Yi 23 1 21 22,Yj 24 23,Yb 25 .neq 20 24] (Yd 25 (Yr [4] [Yw 4 false] .ret) (Yy [5])))) (Yu [5] [Ym 15 5,YB 16 .add 15 1,Ym 5 16])
def z3A:z3a:=
 Yq (Yr [5,14] [Ym 11 5,Ym 12 0,Yn 13 12,Yb 14 .lss 11 13] (Yd 14 (Yy [5]) (YY []))) z6A
def z4A:z3a:=
 Yr [4] [Yw 4 true] .ret
def z1A:z3a:=
 Yq (Yr [5] [Yc 5 0] (.block 0 (.loop z3A))) z4A
def z7f:z6e:=
 {n:=2,wr:=[],res:=[.t 4],body:=Yr [] [Yw 4 false] (Yq (Yr [10] [Ym 6 0,Yn 7 6,Ym 8 1,Yn 9 8,Yb 10 .neq 7 9] (Yd 10 (Yr [4] [Yw 4 false] .ret) (Yy []))) z1A)}
def z0va:z3a:=
 Yu [6,8,21,22] [YM 35 8,Ym 36 9,Yo 37 (.buildSl 1 1 [st []] [(0,1,.s 36)]),Yo 38 (.append 1 16 false none none 35 (.s 37)),Ym 39 6,Ym 40 10,Yb 41 .add 39 40,YM 8 38,Ym 6 41]
def z6ua:z3a:=
 Yq (.block 1 (Yr [6,8,9,10,11,21,22] [Ym 25 0,Ym 26 6,Yo 27 (.slSl 1 (.s 25) (some (.s 26)) none none),Yk 28 48 27,Ym 24 28,Ye 29 0 24,Ye 30 1 24,Ye 31 2 24,Ym 9 29,Ym 10 30,Ym 11 31] (Yq (Yr [6,8,9,10,11,21,22,33] [Ym 32 11,YB 33 .neq 32 0] (Yd 33 (Yr [2,3,4] [Ym 34 11,Yo 2 (.mv true (.c (.sl (.own 1) none 0 []))),Yc 3 0,Ym 4 34] .ret) (Yy [6,8,9,10,21,22]))) z0va))) (Yu [6,8,21,22] [YB 42 .add 22 1,Ym 22 42])
def z4ua:z3a:=
 Yr [6,8,21,22,23] [Yb 23 .lss 22 21] (Yq (Yd 23 (Yy [6,8,21,22]) (YY [6,8])) z6ua)
def z9ua:z3a:=
 Yr [2,3,4] [YM 43 8,Ym 44 6,YM 2 43,Ym 3 44,Yc 4 0] .ret
def z2ua:z3a:=
 Yr [5,6,8] [Yo 8 (.mv true (.c (.sl (.own 1) none 0 [])))] (Yq (Yr [6,8,21,22] [Ym 21 5,Yc 22 0] (.block 0 (.loop z4ua))) z9ua)
def z8Ia:z6e:=
 {n:=1,wr:=[],res:=[.t 2,.t 3,.t 4],body:=Yr [] [Yo 2 (.mv true (.c (.sl (.own 1) none 0 []))),Yc 3 0,Yc 4 0] (Yr [5,6,7] [Ym 13 0,Yo 14 (.call 47 [.s 13,.c (i64 1)] []),Ym 12 14,Ye 15 0 12,Ye 16 1 12,Ye 17 2 12,Ym 5 15,Ym 6 16,Ym 7 17] (Yq (Yr [5,6,7,19] [Ym 18 7,YB 19 .neq 18 0] (Yd 19 (Yr [2,3,4] [Ym 20 7,Yo 2 (.mv true (.c (.sl (.own 1) none 0 []))),Yc 3 0,Ym 4 20] .ret) (Yy [5,6]))) z2ua))}
def z5ua:z3a:=
 Yq (.block 1 (Yr [6,8,18,19] [YM 21 8,Ym 22 0,Ym 23 6,Ym 24 6,YB 25 .add 24 16,Yo 26 (.slSl 1 (.s 22) (some (.s 23)) (some (.s 25)) none),Yo 27 (.s2ap 16 (.s 26)),YJ 28 16 27,Yo 29 (.buildSl 16 1 (bys (z9c 16)) [(0,16,.s 28)]),Yo 30 (.append 16 16 false none none 21 (.s 29)),YM 8 30] (Yu [6,8,18,19] [Ym 31 6,YB 32 .add 31 16,Ym 6 32]))) (Yu [6,8,18,19] [YB 33 .add 19 1,Ym 19 33])
def z1va:z3a:=
 Yr [6,8,18,19,20] [Yb 20 .lss 19 18] (Yq (Yd 20 (Yy [6,8,18,19]) (YY [6,8])) z5ua)
def z3ua:z3a:=
 Yr [2,3,4] [YM 34 8,Ym 35 6,YM 2 34,Ym 3 35,Yc 4 0] .ret
def z1ua:z3a:=
 Yr [5,6,8] [Yo 8 (.mv true (.c (.sl (.own 16) none 0 [])))] (Yq (Yr [6,8,18,19] [Ym 18 5,Yc 19 0] (.block 0 (.loop z1va))) z3ua)
def z0Ka:z6e:=
 {n:=1,wr:=[],res:=[.t 2,.t 3,.t 4],body:=Yr [] [Yo 2 (.mv true (.c (.sl (.own 16) none 0 []))),Yc 3 0,Yc 4 0] (Yr [5,6,7] [Ym 10 0,Yo 11 (.call 47 [.s 10,.c (i64 16)] []),Ym 9 11,Ye 12 0 9,Ye 13 1 9,Ye 14 2 9,Ym 5 12,Ym 6 13,Ym 7 14] (Yq (Yr [5,6,7,16] [Ym 15 7,YB 16 .neq 15 0] (Yd 16 (Yr [2,3,4] [Ym 17 7,Yo 2 (.mv true (.c (.sl (.own 16) none 0 []))),Yc 3 0,Ym 4 17] .ret) (Yy [5,6]))) z1ua))}
def z6T:z3a:=
 Yq (.block 1 (Yr [5,25] [Ym 17 0,Ym 18 5,Yi 19 16 17 18,YJ 20 16 19,Ym 21 1,Ym 22 5,Yi 23 16 21 22,YJ 24 16 23,Yo 25 (.eqF (ks8 16) true (.s 20) (.s 24))] (Yd 25 (Yr [4] [Yw 4 false] .ret) (Yy [5])))) (Yu [5] [Ym 15 5,YB 16 .add 15 1,Ym 5 16])
def z3R:z3a:=
 Yq (Yr [5,14] [Ym 11 5,Ym 12 0,Yn 13 12,Yb 14 .lss 11 13] (Yd 14 (Yy [5]) (YY []))) z6T
def z2T:z3a:=
 Yr [4] [Yw 4 true] .ret
def z9S:z3a:=
 Yq (Yr [5] [Yc 5 0] (.block 0 (.loop z3R))) z2T
def z62:z6e:=
 {n:=2,wr:=[],res:=[.t 4],body:=Yr [] [Yw 4 false] (Yq (Yr [10] [Ym 6 0,Yn 7 6,Ym 8 1,Yn 9 8,Yb 10 .neq 7 9] (Yd 10 (Yr [4] [Yw 4 false] .ret) (Yy []))) z9S)}
def z4Ya:z3a:=
 Yr [4,5,6] [Ym 28 4,Ym 29 5,Ym 30 6,Ym 4 28,Ym 5 29,Ym 6 30] .ret
def z0lb:z6e:=
 {n:=2,wr:=[],res:=[.t 4,.t 5,.t 6],body:=Yr [] [Yc 4 0,Yc 5 0,Yc 6 0] (Yr [4,5,6] [Ym 8 0,Yk 9 45 8,Ym 7 9,Ye 10 0 7,Ye 11 1 7,Ye 12 2 7,Ym 4 10,Ym 5 11,Ym 6 12] (Yq (.block 0 (Yr [4,5,6,13] [Ym 14 6,YB 15 .neq 14 0,Ym 13 15] (Yd 13 (Yy [4,5,6]) (Yr [4,5,6,16] [Ym 17 4,YB 18 .lss 17 0,Ym 16 18] (Yd 16 (Yu [4,5,6] [Yc 6 6]) (Yr [4,5,6,19] [Ym 20 4,Ym 21 0,Yn 22 21,Ym 23 5,Yb 24 .sub 22 23,Ym 25 1,Yb 26 .quo 24 25,Yb 27 .gtr 20 26,Ym 19 27] (Yd 19 (Yu [4,5,6] [Yc 6 5]) (Yy [4,5,6])))))))) z4Ya))}
def z4U:z6e:=
 {n:=2,wr:=[],res:=[.t 4],body:=YR [2,3] [.norm [2,3]] [Yo 2 (.box 2 none true (.s 0)),Yo 3 (.box 3 none false (.s 1)),Yo 4 (.mv false (.c (.lit .nilFunc)))] (Yr [4] [Yo 5 (.mkfn 61 [] [.s 2,.s 3]),Ym 4 5] .ret)}
def z8G:z6e:=
 {n:=2,wr:=[],res:=[.t 2,.t 3,.t 4],body:=Yr [0,1] [Yc 2 0,Yc 3 0,Yc 4 0] (YR [0,1,5,6,7] [.norm [0,1]] [Yl 9 0 0,Yl 10 1 1,Yo 11 (.slSl 1 (.s 9) (some (.s 10)) none none),Yk 12 45 11,Ym 8 12,Ye 13 0 8,Ye 14 1 8,Ye 15 2 8,Ym 5 13,Ym 6 14,Ym 7 15] (YR [0,1,5,7] [.norm [0,1]] [Yl 16 1 1,Ym 17 6,Yb 18 .add 16 17,YS 1 1 18] (YR [0,1,2,3,4] [.norm [0,1]] [Ym 19 5,Yl 20 1 1,Ym 21 7,Ym 2 19,Ym 3 20,Ym 4 21] .ret)))}
end Go.Abs
end

section
namespace Go.Abs
theorem z6Yc (E:Env) (h12:E.G 12=z1Rb):∀ds,z1G.pre ds→ds.length=z3C.n∧awp E z3C.body (z0m z3C.res (z1G.post ds)) (z3b z3C.wr ds):=by
 rintro _ ⟨nl,l,hl,hm,rfl⟩
 rw[z1G,z9Ta]
 have hi0:=z2s (n:=l.length) (z8dc (by omega))
 simp(maxSteps:=1000000) (disch:=first|omega|(simp;done)|(simp;omega)) [z9a,z1a,z0a,z3C,h12,z2bb]
 refine z4a fun Q0 hQ0=> ?_
 refine z4e (fun i:Nat=>⟨[(0,.sl .plain nl l.length (z9p l))],[(3,.sl (.own 1) (some false) (z4J l.length++(l.take i).flatMap z4J).length (bys (z4J l.length++(l.take i).flatMap z4J))),(9,.sl .plain nl l.length (z9p l)),(10,i64 l.length),(11,i64 i)],[]⟩) (fun i=>l.length-i) (· ≤l.length) 0 (by simp) (by simp) fun i hi=> ?_
 refine z4a fun Q1 hQ1=> ?_
 simp(maxSteps:=1000000) (disch:=first|omega|(simp;done)|(simp;omega)) [z9a,z1a,z0a,z2xa,-List.length_flatMap]
 rw[z6d]
 refine⟨by simp,fun h1=> ?_,fun h1=> ?_⟩<;>simp at h1
 ·have h1':i<l.length:=by omega
  have hs:=z7s l z4J 0 h1'
  rw[show l.getD i 0=atI l i from rfl] at hs
  obtain⟨g0,g1⟩:=hm _ (z0zb h1')
  have g2:=z2s (hm _ (z0zb h1'))
  have g3:=z1l (l:=l.take i) fun x hx=>hm x (List.mem_of_mem_take hx)
  rw[List.length_take] at g3
  generalize hF:(l.take i).flatMap z4J=F at*
  generalize hX:atI l i=x at*
  simp(maxSteps:=1000000) (disch:=first|omega|(simp;done)|(simp;omega)) [z9a,z1a,z0a,z3xa,z5Ia,hX,h12,z2bb,hQ1,-List.length_flatMap]
  refine⟨by omega,by omega,by omega,i+1,by omega,by omega,⟨?_,hs.symm⟩,by simp⟩
  rw[hs,List.length_append];omega
 ·have e:i=l.length:=by omega
  subst e
  simp(maxSteps:=1000000) (disch:=first|omega|(simp;done)|(simp;omega)) [z9a,z1a,z0a,hQ1,hQ0,z5va,own1,z4x,-List.length_flatMap]
end Go.Abs
end

section
namespace Go.Abs
set_option maxRecDepth 100000
@[simp] theorem z3Qd (ids:List Nat) (f:Nat→List z2a) (n:Int):z2za ids f (i64 n)=i64 n:=rfl
@[simp] theorem z5ge (ids:List Nat) (f:Nat→List z2a) (b:Bool):z2za ids f (bo b)=bo b:=rfl
@[simp] theorem z6ae (ids:List Nat) (f:Nat→List z2a) (s:List UInt8):z2za ids f (st s)=st s:=rfl
theorem z1Ea {l:List Int} (h:∀x∈l,z1n x) (hl:l.length≤1000000000):(z4x l).length≤9*l.length+9:=by
 have e1:=z2s (n:=(l.length:Int)) (by constructor<;>omega)
 have e2:=z1l h
 rw[z4x,List.length_append]
 omega
theorem z4Xc {m:z2q} (h:m.ok):(z5hb m).length≤97:=by
 have h1:=z1Ea (z0Pb h) (by simp[z9Ia])
 have h2:=h.2.2.2.2.2.2.2
 rw[z5hb,List.length_append,h2]
 simp only[z9Ia,List.length_cons,List.length_nil] at h1⊢
 omega
theorem z4bb:∀{l:List z2q},z9T l→(l.flatMap z5hb).length≤97*l.length
 |[],_=>by simp
 |a::l,h=>by
  have h1:=z4Xc (h a (by simp))
  have h2:=z4bb (l:=l) fun m hm=>h m (by simp[hm])
  rw[List.flatMap_cons,List.length_append,List.length_cons]
  omega
theorem z4vb {l:List Int} {n:Nat} {cs:List z2a} (nl:Option Bool) (h:∀x∈l,z1n x) (hl:l.length≤100000000) (hn:n=l.length) (hc:cs=z9p l):z1G.pre [.sl .plain nl n cs]=True:=by
 subst hn hc
 exact z2Jb hl h rfl
theorem z4gb {l:List Int} {n:Nat} {cs:List z2a} (nl:Option Bool) (hc:cs=z9p l):z1G.post [.sl .plain nl n cs]= .sl (.own 1) (some false) (z4x l).length (bys (z4x l)):=by
 subst hc
 rw[z1G,z9Ta];rfl
theorem z96b {x:z3h} (h:x.ok):∀z∈[x.time,x.kind,x.req,x.mode],z1n z:=by
 obtain⟨h1,h2,h3,h4,_⟩:=h
 intro z hz
 simp only[List.mem_cons,List.not_mem_nil,or_false] at hz
 rcases hz with rfl|rfl|rfl|rfl<;>assumption
def z9Cc (x:z3h):List UInt8:=z4x [x.time,x.kind,x.req,x.mode]++(z5N (z7kb x.cmd)++(x.dig++z4J x.made.length))
theorem z3Gc (x:z3h):z7Xa x=(z9Cc x++x.made.flatMap z5hb)++z4x x.gone:=by simp[z7Xa,z9Cc]
theorem z1fc {x:z3h} (h:x.small):(z9Cc x).length≤2000001000:=by
 have h1:=z1Ea (z96b h.1) (by simp)
 have h2:=z0Gb h.2.1
 have h3:=z2s (n:=((z7kb x.cmd).length:Int)) (by constructor<;>omega)
 have h4:=z2s (n:=(x.made.length:Int)) (by have:=h.2.2.1;constructor<;>omega)
 have h5:=h.1.2.2.2.2.2.1
 simp only[List.length_cons,List.length_nil] at h1
 rw[z9Cc,z5N]
 simp only[List.length_append,h5]
 omega
set_option maxHeartbeats 16000000 in
theorem z8mc (E:Env) (h39:E.G 39=z1G) (h130:E.G 130=z3rb) (h7:E.G 7=z7ia) (h12:E.G 12=z1Rb) (h129:E.G 129=z1y):∀ds,z9Db.pre ds→ds.length=z5r.n∧awp E z5r.body (z0m z5r.res (z9Db.post ds)) (z3b z5r.wr ds):=by
 rintro _ ⟨nc,nm,ng,x,hx,rfl⟩
 rw[z9ob hx,z3Gc]
 have hd:=hx.1.2.2.2.2.2.1
 have h16:=hx.1.2.2.2.2.2.2.1
 have hgo:=hx.1.2.2.2.2.2.2.2
 have hml:=hx.2.2.1
 have hgl:=hx.2.2.2
 have hl:=z4V (nc:=nc) (nm:=nm) (ng:=ng) hd
 have h28:=z55a (nc:=nc) (nm:=nm) (ng:=ng) hd
 have h29:=z76a (nc:=nc) (nm:=nm) (ng:=ng) hd
 have hg:=z9gb (nc:=nc) (nm:=nm) (ng:=ng) hd
 have hlen:=z1aa (z4s h16)
 have hHl:=z1fc hx
 have hc2:=z0Gb hx.2.1
 have hp4:z1G.pre [.sl .plain (some false) 4 [i64 x.time,i64 x.kind,i64 x.req,i64 x.mode]]=True:=z4vb (some false) (z96b hx.1) (by simp) rfl rfl
 have hq4:z1G.post [.sl .plain (some false) 4 [i64 x.time,i64 x.kind,i64 x.req,i64 x.mode]]=_:=z4gb (l:=[x.time,x.kind,x.req,x.mode]) (some false) rfl
 have hpg:z1G.pre [.sl .plain ng x.gone.length (z9p x.gone)]=True:=z4vb ng hgo (by omega) rfl rfl
 have hqg:z1G.post [.sl .plain ng x.gone.length (z9p x.gone)]=_:=z4gb (l:=x.gone) ng rfl
 have hgle:=z1Ea hgo (by omega)
 have hib:=z2bb (n:=(x.made.length:Int)) (by omega) (by omega)
 have hcp:z1y.pre [.sl .plain (some false) 4 [.sl (.own 1) (some false) (z4x [x.time,x.kind,x.req,x.mode]).length (bys (z4x [x.time,x.kind,x.req,x.mode])),.sl (.own 1) (some false) (z5N (z7kb x.cmd)).length (bys (z5N (z7kb x.cmd))),.sl .plain (some false) 16 (bys x.dig),.sl (.own 1) (some false) (z4J x.made.length).length (bys (z4J x.made.length))]]=True:=by
  have:=z9za (nl:=some false) (n:=4) (ps:=[(true,some false,z4x [x.time,x.kind,x.req,x.mode]),(true,some false,z5N (z7kb x.cmd)),(false,some false,x.dig),(true,some false,z4J x.made.length)]) (by
   have e:=hHl
   simp only[z9Cc,List.length_append] at e
   simp only[z1Kc,List.map_cons,List.map_nil,List.sum_cons,List.sum_nil]
   omega) (by simp) rfl
  rw[←hd]
  exact this
 have hcq:z1y.post [.sl .plain (some false) 4 [.sl (.own 1) (some false) (z4x [x.time,x.kind,x.req,x.mode]).length (bys (z4x [x.time,x.kind,x.req,x.mode])),.sl (.own 1) (some false) (z5N (z7kb x.cmd)).length (bys (z5N (z7kb x.cmd))),.sl .plain (some false) 16 (bys x.dig),.sl (.own 1) (some false) (z4J x.made.length).length (bys (z4J x.made.length))]]= .sl (.own 1) none (z9Cc x).length (bys (z9Cc x)):=by
  have:=z4oa (some false) 4 [(true,some false,z4x [x.time,x.kind,x.req,x.mode]),(true,some false,z5N (z7kb x.cmd)),(false,some false,x.dig),(true,some false,z4J x.made.length)]
  simp only[List.flatMap_cons,List.flatMap_nil,List.append_nil] at this
  rw[←hd]
  exact this
 generalize hH:z9Cc x=H at*
 generalize hG:z4x x.gone=G at*
 generalize h4:z4x [x.time,x.kind,x.req,x.mode]=e4 at*
 generalize hSS:z5N (z7kb x.cmd)=eS at*
 generalize hN:z4J x.made.length=eN at*
 simp(maxSteps:=1000000) (disch:=first|omega|(simp;done)|(simp;omega)) [z9a,z1a,z0a,z5r,hl,h39,hp4,hq4,h130,z4sc hx.2.1,z5ib,h7,z6Aa,hSS,hg,h28,h12,hib,hN,h129,hcp,hcq,-z1a,-List.length_append]
 refine z4a fun Q0 hQ0=> ?_
 refine z4e (fun i:Nat=>⟨[(0,.agg (z8j nc nm ng x))],[(1,.ep (z8j nc nm ng x)),(3,.sl (.own 1) none (H++(x.made.take i).flatMap z5hb).length (bys (H++(x.made.take i).flatMap z5hb))),(31,.sl .plain nm x.made.length (z9n x.made)),(32,i64 x.made.length),(33,i64 i)],[]⟩)
  (fun i=>x.made.length-i) (fun i=>i≤x.made.length) 0 (by simp) (by simp) fun i hi=> ?_
 refine z4a fun Q1 hQ1=> ?_
 have hBl:(H++(x.made.take i).flatMap z5hb).length≤2000001000+97*i:=by
  have:=z4bb (l:=x.made.take i) fun m hm=>h16 m (List.mem_of_mem_take hm)
  rw[List.length_append]
  rw[List.length_take] at this
  omega
 by_cases h1:i<x.made.length
 ·have hm:=h16 _ (z3yb h1)
  have hmd:=hm.2.2.2.2.2.2.2
  have ha:=z9Ic h16 h1
  have hmll:=z0A hmd
  have hle:24≤x.made.length*24-i*24:=by omega
  have hle2:i*24≤x.made.length*24:=by omega
  have hs:(x.made.take (i+1)).flatMap z5hb=(x.made.take i).flatMap z5hb++z5hb (atD x.made i):=by
   rw[List.take_succ_eq_append_getElem h1,List.flatMap_append,z0ab h1];simp
  have hnok:=z0Pb hm
  have e8l:=z1Ea hnok (by simp[z9Ia])
  generalize hX:atD x.made i=X at*
  have sp:splice (i64 0::i64 0::i64 0::i64 0::i64 0::i64 0::i64 0::bo false::bys (z9c 16)) 0 (z6B X)=z6B X:=z7fc hmd rfl
  have mtk:=z0xd hmd
  have nl8:(z9Ia X).length=8:=rfl
  rw[nl8] at e8l
  have key:∀r:Int,z8de X.raw=r→z1G.pre [.sl .plain (some false) 8 [i64 X.id,i64 X.ty,i64 X.uses,i64 X.beg,i64 X.fin,i64 X.ver,i64 X.par,i64 r]]=True∧
    z1G.post [.sl .plain (some false) 8 [i64 X.id,i64 X.ty,i64 X.uses,i64 X.beg,i64 X.fin,i64 X.ver,i64 X.par,i64 r]]= .sl (.own 1) (some false) (z4x (z9Ia X)).length (bys (z4x (z9Ia X))):=by
   rintro r rfl
   exact⟨z4vb (l:=z9Ia X) (some false) hnok (by rw[nl8];omega) rfl rfl,z4gb (l:=z9Ia X) (some false) rfl⟩
  have hcat:z5hb X=z4x (z9Ia X)++X.dig:=rfl
  generalize hE:z4x (z9Ia X)=e8 at*
  generalize hB:H++(x.made.take i).flatMap z5hb=B at*
  have hcp8:z1y.pre [.sl .plain (some false) 3 [.sl (.own 1) none B.length (bys B),.sl (.own 1) (some false) e8.length (bys e8),.sl .plain (some false) 16 (bys X.dig)]]=True:=by
   have:=z9za (nl:=some false) (n:=3) (ps:=[(true,none,B),(true,some false,e8),(false,some false,X.dig)]) (by
    simp only[z1Kc,List.map_cons,List.map_nil,List.sum_cons,List.sum_nil]
    omega) (by simp) rfl
   rw[←hmd]
   exact this
  have hcq8:z1y.post [.sl .plain (some false) 3 [.sl (.own 1) none B.length (bys B),.sl (.own 1) (some false) e8.length (bys e8),.sl .plain (some false) 16 (bys X.dig)]]= .sl (.own 1) none (B++z5hb X).length (bys (B++z5hb X)):=by
   have:=z4oa (some false) 3 [(true,none,B),(true,some false,e8),(false,some false,X.dig)]
   simp only[List.flatMap_cons,List.flatMap_nil,List.append_nil] at this
   rw[←hmd,hcat]
   exact this
  have hs':H++(x.made.take (i+1)).flatMap z5hb=B++z5hb X:=by rw[hs,←List.append_assoc,hB]
  generalize hBX:B++z5hb X=B' at*
  cases hr:X.raw
  ·obtain⟨k1,k2⟩:=key 0 (by rw[hr];rfl)
   simp(maxSteps:=1000000) (disch:=first|omega|(simp;done)|(simp;omega)) [z9a,z1a,z0a,z6z,z3L,z1L,kT,kF,dT,dF,h1,hlen,hle,hle2,ha,sp,hmll,mtk,z8Qa,z3bb,hr,h39,k1,k2,h129,hcp8,hcq8,z7td hmd,hmd,hQ1,-z1a,-List.length_append]
   exact⟨i+1,by omega,by omega,⟨by rw[hs'],by rw[hs']⟩,by omega⟩
  ·obtain⟨k1,k2⟩:=key 1 (by rw[hr];rfl)
   simp(maxSteps:=1000000) (disch:=first|omega|(simp;done)|(simp;omega)) [z9a,z1a,z0a,z6z,z3L,z1L,kT,kF,dT,dF,h1,hlen,hle,hle2,ha,sp,hmll,mtk,z8Qa,z3bb,hr,h39,k1,k2,h129,hcp8,hcq8,z7td hmd,hmd,hQ1,-z1a,-List.length_append]
   exact⟨i+1,by omega,by omega,⟨by rw[hs'],by rw[hs']⟩,by omega⟩
 ·obtain rfl:i=x.made.length:=by omega
  rw[List.take_length] at*
  generalize hB:H++x.made.flatMap z5hb=B at*
  simp(maxSteps:=1000000) (disch:=first|omega|(simp;done)|(simp;omega)) [z9a,z1a,z0a,z6z,kT,kF,dT,dF,hQ1,hQ0,z1ea,hl,h29,h39,hpg,hqg,-List.length_append]
  exact⟨by omega,List.length_append,by rw[←hB,List.append_assoc]⟩
theorem z7sc (E:Env) (h302:E.G 302=z9Db) (h8:E.G 8=ofC):∀ds,z1Ma.pre ds→ds.length=z7q.n∧awp E z7q.body (z0m z7q.res (z1Ma.post ds)) (z3b z7q.wr ds):=by
 rintro _ ⟨nc,nm,ng,x,hx,rfl⟩
 rw[z3Ta hx]
 have hd:=hx.1.2.2.2.2.2.1
 have hl:=z4V (nc:=nc) (nm:=nm) (ng:=ng) hd
 have htk:=z6Lc (nc:=nc) (nm:=nm) (ng:=ng) hd
 have hle:(z7Xa x).length≤2200000000:=by
  have h1:=z1fc hx
  have h2:=z4bb hx.1.2.2.2.2.2.2.1
  have h3:=z1Ea hx.1.2.2.2.2.2.2.2 (by have:=hx.2.2.2;omega)
  have h4:=hx.2.2.1
  have h5:=hx.2.2.2
  rw[z3Gc,List.length_append,List.length_append]
  omega
 have hp:ofC.pre [i64 8,.sl .plain (some false) 1 [st (z7Xa x)]]=True:=z4td (l:=[z7Xa x]) rfl (by rw[tot1];omega)
 simp(maxSteps:=1000000) (disch:=first|omega|(simp;done)|(simp;omega)) [z9a,z1a,z0a,z7q,hl,htk,h302,z0jc hx,z9ob hx,h8,hp,z1u,z7A,z4l,z0g,z1h]
end Go.Abs
end
