/- Lemmas: an abstract interpreter, and what the functions compute. -/
import Derived.Test.YtepddcbbkhdfiaaGreatDoorG
import Derived.Test.YtepddcbbkhdfiaaGreatDoorH
import Derived.Test.YtepddcbbkhdfiaaGreatDoorP
import Derived.Test.YtepddcbbkhdfiaaGreatDoorQ
import Derived.Test.YtepddcbbkhdfiaaGreatDoorR
set_option linter.unusedSimpArgs false
set_option linter.unusedVariables false
set_option linter.unusedSectionVars false
section
namespace Go.Abs
set_option maxRecDepth 100000
def z2xb:z1c:=
 Yq (.block 1 (Yr [3,5,9,10,11] [Yi 13 1 9 11,Yj 14 13,Ym 5 14] (Yu [3,9,10,11] [YM 15 3,Ym 16 5,Yk 17 12 16,Yo 18 (.append 1 1 false (some false) none 15 (.s 17)),YM 3 18]))) (Yu [3,9,10,11] [YB 19 .add 11 1,Ym 11 19])
def z3xb:z1c:=
 Yr [3,9,10,11,12] [Yb 12 .lss 11 10] (Yq (Yd 12 (Yy [3,9,10,11]) (YY [3])) z2xb)
def z2wb:z1c:=
 Yr [2] [YM 20 3,YM 2 20] .ret
def z7La:z1ka:=
 {n:=1,wr:=[],res:=[.t 2],body:=Yr [] [Yo 2 (.mv true (.c (.sl (.own 1) none 0 [])))] (Yr [3] [Ym 6 0,Yn 7 6,Yk 8 12 7,YM 3 8] (Yq (Yr [3,9,10,11] [Ym 9 0,Yn 10 9,Yc 11 0] (.block 0 (.loop z3xb))) z2wb))}
def z0nb:z1c:=
 Yq (.block 1 (Yu [3,4] [YM 14 3,Ym 15 0,Ym 16 4,Yi 17 1 15 16,Yj 18 17,Yk 19 30 18,Yo 20 (.append 1 1 false none none 14 (.s 19)),YM 3 20])) (Yu [3,4] [Ym 12 4,YB 13 .add 12 1,Ym 4 13])
def z1nb:z1c:=
 Yq (Yr [3,4,11] [Ym 8 4,Ym 9 0,Yn 10 9,Yb 11 .lss 8 10] (Yd 11 (Yy [3,4]) (YY [3]))) z0nb
def z7nb:z1c:=
 Yr [2] [YM 21 3,YM 2 21] .ret
def z5yb:z1ka:=
 {n:=1,wr:=[],res:=[.t 2],body:=Yr [] [Yo 2 (.mv true (.c (.sl (.own 1) none 0 [])))] (Yr [3] [Ym 5 0,Yn 6 5,Yk 7 30 6,YM 3 7] (Yq (Yr [3,4] [Yc 4 0] (.block 0 (.loop z1nb))) z7nb))}
def z0Kb:z1c:=
 Yq (.block 1 (Yr [3,5,9,10,11] [Yi 13 1 9 11,Yj 14 13,Ym 5 14] (Yu [3,9,10,11] [YM 15 3,Ym 16 5,Yk 17 7 16,Yo 18 (.append 1 1 false (some false) none 15 (.s 17)),YM 3 18]))) (Yu [3,9,10,11] [YB 19 .add 11 1,Ym 11 19])
def z2Gb:z1c:=
 Yr [3,9,10,11,12] [Yb 12 .lss 11 10] (Yq (Yd 12 (Yy [3,9,10,11]) (YY [3])) z0Kb)
def z3Fb:z1c:=
 Yr [2] [YM 20 3,YM 2 20] .ret
def z6Yb:z1ka:=
 {n:=1,wr:=[],res:=[.t 2],body:=Yr [] [Yo 2 (.mv true (.c (.sl (.own 1) none 0 [])))] (Yr [3] [Ym 6 0,Yn 7 6,Yk 8 12 7,YM 3 8] (Yq (Yr [3,9,10,11] [Ym 9 0,Yn 10 9,Yc 11 0] (.block 0 (.loop z2Gb))) z3Fb))}
def z4Fb:z1c:=
 Yq (.block 1 (YR [3,5,9,10,11] [.norm [5]] [Yi 13 16 9 11,YJ 14 16 13,Yz 5 5 16,Ys 16 5 5 14] (Yu [3,9,10,11] [YM 15 3,Yo 16 (.slArr 16 1 (.s 5) none none none),Yo 17 (.append 1 1 false (some false) (some 5) 15 (.s 16)),YM 3 17]))) (.region [3,9,10,11] [.drop [5]] [YB 18 .add 11 1,Ym 11 18])
def z0Jb:z1c:=
 Yr [3,9,10,11,12] [Yb 12 .lss 11 10] (Yq (Yd 12 (Yy [3,9,10,11]) (YY [3])) z4Fb)
def z2Kb:z1c:=
 Yr [2] [YM 19 3,YM 2 19] .ret
def z7Xb:z1ka:=
 {n:=1,wr:=[],res:=[.t 2],body:=Yr [] [Yo 2 (.mv true (.c (.sl (.own 1) none 0 [])))] (Yr [3] [Ym 6 0,Yn 7 6,Yk 8 12 7,YM 3 8] (Yq (Yr [3,9,10,11] [Ym 9 0,Yn 10 9,Yc 11 0] (.block 0 (.loop z0Jb))) z2Kb))}
def z0Nb:z1c:=
 Yq (.block 2 (Yr [5,6,7,9,46,47,48] [Yi 50 1 46 48,Yj 51 50,Ym 9 51] (Yu [5,6,7,46,47,48] [Ym 52 7,Yo 53 (.bin .shl (.s 52) (.c (u64 8))),Ym 54 9,Ym 55 5,Yb 56 .xor 54 55,Yo 57 (.toInt .u64 (.s 56)),Yb 58 .or 53 57,Ym 7 58]))) (Yu [5,6,7,46,47,48] [YB 59 .add 48 1,Ym 48 59])
def z5Mb:z1c:=
 Yr [5,6,7,46,47,48,49] [Yb 49 .lss 48 47] (Yq (Yd 49 (Yy [5,6,7,46,47,48]) (.ghost (.keep [5,6,7]) (.exit 1))) z0Nb)
def z3Mb:z1c:=
 Yr [2,3,4] [Ym 67 7,Yo 68 (.toInt .i64 (.s 67)),Ym 69 6,YB 70 .add 69 1,Ym 2 68,Ym 3 70,Yc 4 0] .ret
def z4Nb:z1c:=
 Yq (Yr [6,7,64] [Ym 63 5,Yo 64 (.bin .gtr (.s 63) (.c (u8 0)))] (Yd 64 (Yu [6,7] [Ym 65 7,Yo 66 (.un .xor (.s 65)),Ym 7 66]) (Yy [6,7]))) z3Mb
def z8Mb:z1c:=
 Yq (Yr [5,6,7,62] [Ym 60 7,Yo 61 (.bin .shr (.s 60) (.c (u64 63))),Yo 62 (.bin .gtr (.s 61) (.c (u64 0)))] (Yd 62 (Yr [2,3,4] [Yc 2 0,Yc 3 0,Yc 4 6] .ret) (Yy [5,6,7]))) z4Nb
def z2Nb:z1c:=
 Yr [5,6,7] [Yo 7 (.mv false (.c (u64 0)))] (Yq (Yr [5,6,7,46,47,48] [Ym 43 0,Ym 44 6,YB 45 .add 44 1,Yo 46 (.slSl 1 (.s 43) (some (.c (i64 1))) (some (.s 45)) none),Yn 47 46,Yc 48 0] (.block 1 (.loop z5Mb))) z8Mb)
def z1Nb:z1c:=
 Yr [5,6] [Ym 17 0,Yo 18 (.idxSl 1 (.s 17) (.c (i64 0))),Yj 19 18,Ym 20 5,Yb 21 .xor 19 20,Yo 22 (.toInt .i64 (.s 21)),YB 23 .sub 22 128,Ym 6 23] (Yq (.block 0 (Yr [5,6,24] [Ym 25 6,YB 26 .gtr 25 8,Ym 24 26] (Yd 24 (Yr [2,3,4] [Yc 2 0,Yc 3 0,Yc 4 6] .ret) (Yr [5,6,27] [Ym 28 0,Yn 29 28,Ym 30 6,Yb 31 .leq 29 30,Ym 27 31] (Yd 27 (Yr [2,3,4] [Yc 2 0,Yc 3 0,Yc 4 5] .ret) (Yr [5,6,32] [Ym 33 6,YB 34 .gtr 33 0,Ym 35 34,YG 35 (Ym 36 0),YG 35 (Yo 37 (.idxSl 1 (.s 36) (.c (i64 1)))),YG 35 (Yj 38 37),YG 35 (Ym 39 5),YG 35 (Yb 40 .xor 38 39),YG 35 (Yo 41 (.bin .eql (.s 40) (.c (u8 0)))),Yp 42 35 41,Ym 32 42] (Yd 32 (Yr [2,3,4] [Yc 2 0,Yc 3 0,Yc 4 6] .ret) (Yy [5,6])))))))) z2Nb)
def z4Mb:z1c:=
 Yr [5] [Yo 5 (.mv false (.c (u8 0)))] (Yq (Yr [5,16] [Ym 13 0,Yo 14 (.idxSl 1 (.s 13) (.c (i64 0))),Yj 15 14,Yo 16 (.bin .lss (.s 15) (.c (u8 128)))] (Yd 16 (Yu [5] [Yo 5 (.mv false (.c (u8 255)))]) (Yy [5]))) z1Nb)
def z77b:z1ka:=
 {n:=1,wr:=[],res:=[.t 2,.t 3,.t 4],body:=Yr [] [Yc 2 0,Yc 3 0,Yc 4 0] (Yq (Yr [12] [Ym 10 0,Yn 11 10,YB 12 .eql 11 0] (Yd 12 (Yr [2,3,4] [Yc 2 0,Yc 3 0,Yc 4 5] .ret) (Yy []))) z4Mb)}
def z7Db:z1c:=
 Yr [2,3,4] [Ym 17 0,Ym 18 6,Ym 19 6,Ym 20 5,Yb 21 .add 19 20,Yo 22 (.slSl 1 (.s 17) (some (.s 18)) (some (.s 21)) none),Yo 23 (.toStr none (.s 22)),Ym 24 6,Ym 25 5,Yb 26 .add 24 25,Ym 2 23,Ym 3 26,Yc 4 0] .ret
def z3Xb:z1ka:=
 {n:=1,wr:=[],res:=[.t 2,.t 3,.t 4],body:=Yr [] [Yo 2 (.mv false (.c (st []))),Yc 3 0,Yc 4 0] (Yr [5,6,7] [Ym 9 0,Yo 10 (.call 47 [.s 9,.c (i64 1)] []),Ym 8 10,Ye 11 0 8,Ye 12 1 8,Ye 13 2 8,Ym 5 11,Ym 6 12,Ym 7 13] (Yq (Yr [5,6,7,15] [Ym 14 7,YB 15 .neq 14 0] (Yd 15 (Yr [2,3,4] [Ym 16 7,Yo 2 (.mv false (.c (st []))),Yc 3 0,Ym 4 16] .ret) (Yy [5,6]))) z7Db))}
def z2Fb:z1c:=
 Yu [6,8,9,25,26] [YM 37 9,Ym 38 10,Yo 39 (.buildSl 1 1 [i64 0] [(0,1,.s 38)]),Yo 40 (.append 1 8 false none none 37 (.s 39)),Ym 41 11,YM 9 40,Ym 6 41]
def z7Hb:z1c:=
 Yq (.block 1 (YR [8,9,10,11,12,25,26] [.norm [24,1024]] [Ym 29 8,Yo 30 (.callm 61 (some (.s 29)) [] [(0,24),(1,1024)] []),Ym 28 30,Ye 31 0 28,Ye 32 1 28,Ye 33 2 28,Ym 10 31,Ym 11 32,Ym 12 33] (Yq (Yr [8,9,10,11,12,25,26,35] [Ym 34 12,YB 35 .neq 34 0] (Yd 35 (Yr [2,3,4] [Ym 36 12,Yo 2 (.mv true (.c (.sl (.own 1) none 0 []))),Yc 3 0,Ym 4 36] .ret) (Yy [8,9,10,11,25,26]))) z2Fb))) (Yu [6,8,9,25,26] [YB 42 .add 26 1,Ym 26 42])
def z4Hb:z1c:=
 Yr [6,8,9,25,26,27] [Yb 27 .lss 26 25] (Yq (Yd 27 (Yy [8,9,25,26]) (YY [6,9])) z7Hb)
def z9Gb:z1c:=
 Yr [2,3,4] [YM 43 9,Ym 44 6,YM 2 43,Ym 3 44,Yc 4 0] .ret
def z2Hb:z1c:=
 YR [5,6,8] [.norm [24,1024]] [Ym 22 0,Ym 23 6,Yo 24 (.callm 51 none [.s 22,.s 23] [] [(2,24),(3,1024)]),Ym 8 24] (Yr [5,6,8,9] [Yo 9 (.mv true (.c (.sl (.own 1) none 0 [])))] (Yq (Yr [6,8,9,25,26] [Ym 25 5,Yc 26 0] (.block 0 (.loop z4Hb))) z9Gb))
def z1Yb:z1ka:=
 {n:=1,wr:=[],res:=[.t 2,.t 3,.t 4],body:=Yr [] [Yo 2 (.mv true (.c (.sl (.own 1) none 0 []))),Yc 3 0,Yc 4 0] (Yr [5,6,7] [Ym 14 0,Yo 15 (.call 47 [.s 14,.c (i64 1)] []),Ym 13 15,Ye 16 0 13,Ye 17 1 13,Ye 18 2 13,Ym 5 16,Ym 6 17,Ym 7 18] (Yq (Yr [5,6,7,20] [Ym 19 7,YB 20 .neq 19 0] (Yd 20 (Yr [2,3,4] [Ym 21 7,Yo 2 (.mv true (.c (.sl (.own 1) none 0 []))),Yc 3 0,Ym 4 21] .ret) (Yy [5,6]))) z2Hb))}
def z3Ka:z1c:=
 Yq (.block 1 (Yr [5,25] [Ym 17 0,Ym 18 5,Yi 19 1 17 18,Yj 20 19,Ym 21 1,Ym 22 5,Yi 23 1 21 22,Yj 24 23,Yb 25 .neq 20 24] (Yd 25 (Yr [4] [Yw 4 false] .ret) (Yy [5])))) (Yu [5] [Ym 15 5,YB 16 .add 15 1,Ym 5 16])
def z6Ka:z1c:=
 Yq (Yr [5,14] [Ym 11 5,Ym 12 0,Yn 13 12,Yb 14 .lss 11 13] (Yd 14 (Yy [5]) (YY []))) z3Ka
def z5Ka:z1c:=
 Yr [4] [Yw 4 true] .ret
def z4Ka:z1c:=
 Yq (Yr [5] [Yc 5 0] (.block 0 (.loop z6Ka))) z5Ka
def z0ta:z1ka:=
 {n:=2,wr:=[],res:=[.t 4],body:=Yr [] [Yw 4 false] (Yq (Yr [10] [Ym 6 0,Yn 7 6,Ym 8 1,Yn 9 8,Yb 10 .neq 7 9] (Yd 10 (Yr [4] [Yw 4 false] .ret) (Yy []))) z4Ka)}
def z7vb:z1c:=
 Yu [6,8,21,22] [YM 35 8,Ym 36 9,Yo 37 (.buildSl 1 1 [st []] [(0,1,.s 36)]),Yo 38 (.append 1 16 false none none 35 (.s 37)),Ym 39 6,Ym 40 10,Yb 41 .add 39 40,YM 8 38,Ym 6 41]
def z1vb:z1c:=
 Yq (.block 1 (Yr [6,8,9,10,11,21,22] [Ym 25 0,Ym 26 6,Yo 27 (.slSl 1 (.s 25) (some (.s 26)) none none),Yk 28 48 27,Ym 24 28,Ye 29 0 24,Ye 30 1 24,Ye 31 2 24,Ym 9 29,Ym 10 30,Ym 11 31] (Yq (Yr [6,8,9,10,11,21,22,33] [Ym 32 11,YB 33 .neq 32 0] (Yd 33 (Yr [2,3,4] [Ym 34 11,Yo 2 (.mv true (.c (.sl (.own 1) none 0 []))),Yc 3 0,Ym 4 34] .ret) (Yy [6,8,9,10,21,22]))) z7vb))) (Yu [6,8,21,22] [YB 42 .add 22 1,Ym 22 42])
def z0vb:z1c:=
 Yr [6,8,21,22,23] [Yb 23 .lss 22 21] (Yq (Yd 23 (Yy [6,8,21,22]) (YY [6,8])) z1vb)
def z6vb:z1c:=
 Yr [2,3,4] [YM 43 8,Ym 44 6,YM 2 43,Ym 3 44,Yc 4 0] .ret
def z8ub:z1c:=
 Yr [5,6,8] [Yo 8 (.mv true (.c (.sl (.own 1) none 0 [])))] (Yq (Yr [6,8,21,22] [Ym 21 5,Yc 22 0] (.block 0 (.loop z0vb))) z6vb)
def z5Hb:z1ka:=
 {n:=1,wr:=[],res:=[.t 2,.t 3,.t 4],body:=Yr [] [Yo 2 (.mv true (.c (.sl (.own 1) none 0 []))),Yc 3 0,Yc 4 0] (Yr [5,6,7] [Ym 13 0,Yo 14 (.call 47 [.s 13,.c (i64 1)] []),Ym 12 14,Ye 15 0 12,Ye 16 1 12,Ye 17 2 12,Ym 5 15,Ym 6 16,Ym 7 17] (Yq (Yr [5,6,7,19] [Ym 18 7,YB 19 .neq 18 0] (Yd 19 (Yr [2,3,4] [Ym 20 7,Yo 2 (.mv true (.c (.sl (.own 1) none 0 []))),Yc 3 0,Ym 4 20] .ret) (Yy [5,6]))) z8ub))}
def z4vb:z1c:=
 Yq (.block 1 (Yr [6,8,18,19] [YM 21 8,Ym 22 0,Ym 23 6,Ym 24 6,YB 25 .add 24 16,Yo 26 (.slSl 1 (.s 22) (some (.s 23)) (some (.s 25)) none),Yo 27 (.s2ap 16 (.s 26)),YJ 28 16 27,Yo 29 (.buildSl 16 1 (bys (z5j 16)) [(0,16,.s 28)]),Yo 30 (.append 16 16 false none none 21 (.s 29)),YM 8 30] (Yu [6,8,18,19] [Ym 31 6,YB 32 .add 31 16,Ym 6 32]))) (Yu [6,8,18,19] [YB 33 .add 19 1,Ym 19 33])
def z3vb:z1c:=
 Yr [6,8,18,19,20] [Yb 20 .lss 19 18] (Yq (Yd 20 (Yy [6,8,18,19]) (YY [6,8])) z4vb)
def z5vb:z1c:=
 Yr [2,3,4] [YM 34 8,Ym 35 6,YM 2 34,Ym 3 35,Yc 4 0] .ret
def z0wb:z1c:=
 Yr [5,6,8] [Yo 8 (.mv true (.c (.sl (.own 16) none 0 [])))] (Yq (Yr [6,8,18,19] [Ym 18 5,Yc 19 0] (.block 0 (.loop z3vb))) z5vb)
def z4Kb:z1ka:=
 {n:=1,wr:=[],res:=[.t 2,.t 3,.t 4],body:=Yr [] [Yo 2 (.mv true (.c (.sl (.own 16) none 0 []))),Yc 3 0,Yc 4 0] (Yr [5,6,7] [Ym 10 0,Yo 11 (.call 47 [.s 10,.c (i64 16)] []),Ym 9 11,Ye 12 0 9,Ye 13 1 9,Ye 14 2 9,Ym 5 12,Ym 6 13,Ym 7 14] (Yq (Yr [5,6,7,16] [Ym 15 7,YB 16 .neq 15 0] (Yd 16 (Yr [2,3,4] [Ym 17 7,Yo 2 (.mv true (.c (.sl (.own 16) none 0 []))),Yc 3 0,Ym 4 17] .ret) (Yy [5,6]))) z0wb))}
def z5Ga:z1c:=
 Yq (.block 1 (Yr [5,25] [Ym 17 0,Ym 18 5,Yi 19 16 17 18,YJ 20 16 19,Ym 21 1,Ym 22 5,Yi 23 16 21 22,YJ 24 16 23,Yo 25 (.eqF (ks8 16) true (.s 20) (.s 24))] (Yd 25 (Yr [4] [Yw 4 false] .ret) (Yy [5])))) (Yu [5] [Ym 15 5,YB 16 .add 15 1,Ym 5 16])
def z4Ga:z1c:=
 Yq (Yr [5,14] [Ym 11 5,Ym 12 0,Yn 13 12,Yb 14 .lss 11 13] (Yd 14 (Yy [5]) (YY []))) z5Ga
def z7Ga:z1c:=
 Yr [4] [Yw 4 true] .ret
def z8Ga:z1c:=
 Yq (Yr [5] [Yc 5 0] (.block 0 (.loop z4Ga))) z7Ga
def z9ra:z1ka:=
 {n:=2,wr:=[],res:=[.t 4],body:=Yr [] [Yw 4 false] (Yq (Yr [10] [Ym 6 0,Yn 7 6,Ym 8 1,Yn 9 8,Yb 10 .neq 7 9] (Yd 10 (Yr [4] [Yw 4 false] .ret) (Yy []))) z8Ga)}
def z6Vb:z1c:=
 Yr [4,5,6] [Ym 28 4,Ym 29 5,Ym 30 6,Ym 4 28,Ym 5 29,Ym 6 30] .ret
def z9hc:z1ka:=
 {n:=2,wr:=[],res:=[.t 4,.t 5,.t 6],body:=Yr [] [Yc 4 0,Yc 5 0,Yc 6 0] (Yr [4,5,6] [Ym 8 0,Yk 9 45 8,Ym 7 9,Ye 10 0 7,Ye 11 1 7,Ye 12 2 7,Ym 4 10,Ym 5 11,Ym 6 12] (Yq (.block 0 (Yr [4,5,6,13] [Ym 14 6,YB 15 .neq 14 0,Ym 13 15] (Yd 13 (Yy [4,5,6]) (Yr [4,5,6,16] [Ym 17 4,YB 18 .lss 17 0,Ym 16 18] (Yd 16 (Yu [4,5,6] [Yc 6 6]) (Yr [4,5,6,19] [Ym 20 4,Ym 21 0,Yn 22 21,Ym 23 5,Yb 24 .sub 22 23,Ym 25 1,Yb 26 .quo 24 25,Yb 27 .gtr 20 26,Ym 19 27] (Yd 19 (Yu [4,5,6] [Yc 6 5]) (Yy [4,5,6])))))))) z6Vb))}
def z61a:z1ka:=
 {n:=2,wr:=[],res:=[.t 4],body:=YR [2,3] [.norm [2,3]] [Yo 2 (.box 2 none true (.s 0)),Yo 3 (.box 3 none false (.s 1)),Yo 4 (.mv false (.c (.lit .nilFunc)))] (Yr [4] [Yo 5 (.mkfn 61 [] [.s 2,.s 3]),Ym 4 5] .ret)}
def z0Qa:z1ka:=
 {n:=2,wr:=[],res:=[.t 2,.t 3,.t 4],body:=Yr [0,1] [Yc 2 0,Yc 3 0,Yc 4 0] (YR [0,1,5,6,7] [.norm [0,1]] [Yl 9 0 0,Yl 10 1 1,Yo 11 (.slSl 1 (.s 9) (some (.s 10)) none none),Yk 12 45 11,Ym 8 12,Ye 13 0 8,Ye 14 1 8,Ye 15 2 8,Ym 5 13,Ym 6 14,Ym 7 15] (YR [0,1,5,7] [.norm [0,1]] [Yl 16 1 1,Ym 17 6,Yb 18 .add 16 17,YS 1 1 18] (YR [0,1,2,3,4] [.norm [0,1]] [Ym 19 5,Yl 20 1 1,Ym 21 7,Ym 2 19,Ym 3 20,Ym 4 21] .ret)))}
end Go.Abs
end

section
namespace Go.Abs
theorem z9Zd (d:List UInt8) (i:Nat):d.take (i*16)++(d.drop (i*16)).take 16=d.take ((i+1)*16):=by
 rw[show(i+1)*16=i*16+16 by omega,List.take_add]
theorem z8Yc (E:Env):∀ds,z79a.pre ds→ds.length=z9ra.n∧awp E z9ra.body (z4xa z9ra.res (z79a.post ds)) (z4H z9ra.wr ds):=by
 rintro _ ⟨nl,nl',n,m,a,b,hn,ha,hb,rfl⟩
 simp(maxSteps:=1000000) (disch:=first|omega|(simp;done)|(simp;omega)) [z6G,z8pa,z7pa,z9ra]
 rw[z4h]
 refine⟨by simp,fun h=> ?_,fun h=> ?_⟩<;>simp at h
 ·have:(a==b)=false:=by simpa using fun e:a=b=>h (by rw[e] at ha;omega)
  simp(maxSteps:=1000000) (disch:=first|omega|(simp;done)|(simp;omega)) [z6G,z8pa,z7pa,z79a,this]
 simp(maxSteps:=1000000) (disch:=first|omega|(simp;done)|(simp;omega)) [z6G,z8pa,z7pa,z8Ga]
 have hl:n=m:=by omega
 subst hl
 refine z1g fun Q0 hQ0=> ?_
 refine z1v (fun i:Nat=>⟨[(0,.sl .plain nl n (bys a)),(1,.sl .plain nl' n (bys b))],[(5,i64 i)],[]⟩)
  (fun i=>n-i) (fun i=>i≤n∧a.take (i*16)=b.take (i*16)) 0 rfl (by simp) fun i hi=> ?_
 obtain⟨hi,he⟩:=hi
 refine z1g fun Q1 hQ1=> ?_
 simp(maxSteps:=1000000) (disch:=first|omega|(simp;done)|(simp;omega)) [z6G,z8pa,z7pa,z4Ga]
 rw[z4h]
 refine⟨by simp,fun h1=> ?_,fun h1=> ?_⟩<;>simp at h1
 ·have h1':i<n:=by omega
  have la:((a.drop (i*16)).take 16).length=16:=by simp;omega
  have lb:((b.drop (i*16)).take 16).length=16:=by simp;omega
  have sa:=z9Zd a i
  have sb:=z9Zd b i
  simp(maxSteps:=1000000) (disch:=first|omega|(simp;done)|(simp;omega)) [z6G,z8pa,z7pa,z5Ga,z37a,la,lb]
  refine⟨by omega,by omega,by omega,by omega,?_⟩
  rw[z4h]
  refine⟨by simp,fun h2=> ?_,fun h2=> ?_⟩<;>simp at h2
  ·have:(a==b)=false:=by simpa using fun e:a=b=>h2 (by rw[e])
   simp(maxSteps:=1000000) (disch:=first|omega|(simp;done)|(simp;omega)) [z6G,z8pa,z7pa,hQ1,hQ0,z79a,this]
  ·simp(maxSteps:=1000000) (disch:=first|omega|(simp;done)|(simp;omega)) [z6G,z8pa,z7pa,hQ1]
   refine⟨i+1,by omega,⟨by omega,?_⟩,by simp⟩
   rw[←sa,←sb,he,h2]
 ·have e:i=n:=by omega
  subst e
  have:(a==b)=true:=by
   rw[List.take_of_length_le (by omega),List.take_of_length_le (by omega)] at he
   simpa using he
  simp(maxSteps:=1000000) (disch:=first|omega|(simp;done)|(simp;omega)) [z6G,z8pa,z7pa,hQ1,hQ0,z7Ga,z79a,this]
end Go.Abs
end

section
namespace Go.Abs
set_option maxRecDepth 100000
set_option maxHeartbeats 8000000
def z1ob:List z2n→List z2n→Bool
 |[],[]=>true
 |x::a,y::b=>z6La x y&&z1ob a b
 |_,_=>false
theorem z6Eb:∀a b:List z2n,z1ob a b=true↔a=b
 |[],[]=>by simp[z1ob]
 |[],_::_=>by simp[z1ob]
 |_::_,[]=>by simp[z1ob]
 |x::a,y::b=>by simp[z1ob,z6Eb a b,z1Cb]
theorem z8zc {a b:List z2n} (h:a≠b):z1ob a b=false:=by
 cases hc:z1ob a b with
 |false=>rfl
 |true=>exact absurd ((z6Eb a b).1 hc) h
theorem z65c {a b:z2n} (h:a≠b):z6La a b=false:=by
 cases hc:z6La a b with
 |false=>rfl
 |true=>exact absurd ((z1Cb a b).1 hc) h
def z0Fd:z1f:=⟨fun ds=>∃(nl nl':Option Bool) (a b:List z2n),z3Ab a∧z3Ab b∧a.length≤1000∧b.length≤1000∧ds=[z5ta nl a,z5ta nl' b],fun ds=>bo (z1ob (z9xb (gNn (nth ds 0)) (gCs (nth ds 0))) (z9xb (gNn (nth ds 1)) (gCs (nth ds 1))))⟩
theorem z6td {nl nl':Option Bool} {a b:List z2n} (ha:z3Ab a) (hb:z3Ab b) (h1:a.length≤1000) (h2:b.length≤1000):z0Fd.pre [z5ta nl a,z5ta nl' b]=True:=eq_true ⟨nl,nl',a,b,ha,hb,h1,h2,rfl⟩
theorem z8xc {nl nl':Option Bool} {a b:List z2n} (ha:z3Ab a) (hb:z3Ab b):z0Fd.post [z5ta nl a,z5ta nl' b]=bo (z1ob a b):=by
 show bo (z1ob (z9xb a.length (z0sa a)) (z9xb b.length (z0sa b)))=_
 rw[z4kb ha,z4kb hb]
theorem z9Jd (E:Env) (h329:E.G 329=z1Mb):∀ds,z0Fd.pre ds→ds.length=z4qa.n∧awp E z4qa.body (z4xa z4qa.res (z0Fd.post ds)) (z4H z4qa.wr ds):=by
 rintro _ ⟨nl,nl',a,b,ha,hb,hla,hlb,rfl⟩
 rw[z8xc ha hb]
 unfold z5ta
 have ea:=z3xa ha
 have eb:=z3xa hb
 generalize hQf:z4xa z4qa.res (bo (z1ob a b))=Qf
 by_cases h:a.length=b.length
 rotate_left
 ·have hz:z1ob a b=false:=z8zc fun e=>h (by rw[e])
  have h':¬((a.length:Int)=b.length):=by omega
  simp(maxSteps:=1000000) (disch:=first|omega|(simp;done)|(simp;omega)) [z6G,z8pa,z7pa,z4qa,h',kT,kF,hz,←hQf]
  skip
 have h':((a.length:Int)=b.length):=by omega
 simp(maxSteps:=1000000) (disch:=first|omega|(simp;done)|(simp;omega)) [z6G,z8pa,z7pa,z4qa,z9Ga,h',kT,kF]
 refine z1g fun Q0 hQ0=> ?_
 refine z1v (fun i:Nat=>⟨[(0,.sl .plain nl a.length (z0sa a)),(1,.sl .plain nl' b.length (z0sa b))],[(5,i64 i)],[]⟩)
  (fun i=>a.length-i) (fun i=>i≤a.length∧a.take i=b.take i) 0 (by simp) (by simp) fun i hi=> ?_
 obtain⟨hi,he⟩:=hi
 refine z1g fun Q1 hQ1=> ?_
 by_cases c:i<a.length
 ·have c':i<b.length:=by omega
  have xa:=z7Eb ha c
  have xb:=z7Eb hb c'
  have sa:=ha _ (List.getElem_mem c)
  have sb:=hb _ (List.getElem_mem c')
  have p:=z0yc (nc:=none) (nm:=none) (ng:=none) (nc':=none) (nm':=none) (ng':=none) sa sb
  have q:=z4Db (nc:=none) (nm:=none) (ng:=none) (nc':=none) (nm':=none) (ng':=none) sa sb
  have la:=z5Ab sa
  have lb:=z5Ab sb
  have l1:30≤a.length*30-i*30:=by omega
  have l2:i*30≤a.length*30:=by omega
  have l3:30≤b.length*30-i*30:=by omega
  have l4:i*30≤b.length*30:=by omega
  by_cases e:a[i]=b[i]
  ·have hz:z6La a[i] b[i]=true:=(z1Cb _ _).2 e
   have hT:=z1Pb c c' he e
   generalize a[i]=x at*
   generalize b[i]=y at*
   simp(maxSteps:=1000000) (disch:=first|omega|(simp;done)|(simp;omega)) [z6G,z8pa,z7pa,z1va,z9ya,kT,kF,dT,dF,c,c',ea,eb,xa,xb,h329,p,q,la,lb,l1,l2,l3,l4,hz,hQ1]
   exact⟨i+1,by omega,⟨by omega,hT⟩,by omega⟩
  ·have hz:z6La a[i] b[i]=false:=z65c e
   have hz2:z1ob a b=false:=z8zc fun e'=>e (by subst e';rfl)
   generalize a[i]=x at*
   generalize b[i]=y at*
   simp(maxSteps:=1000000) (disch:=first|omega|(simp;done)|(simp;omega)) [z6G,z8pa,z7pa,z1va,z9ya,kT,kF,dT,dF,c,c',ea,eb,xa,xb,h329,p,q,la,lb,l1,l2,l3,l4,hz,hQ1,hQ0,←hQf,hz2,z4qa]
   skip
 ·obtain rfl:i=a.length:=by omega
  have hz:z1ob a b=true:=(z6Eb a b).2 (z8Nb h he)
  simp(maxSteps:=1000000) (disch:=first|omega|(simp;done)|(simp;omega)) [z6G,z8pa,z7pa,z1va,z2Ga,kT,kF,dT,dF,hQ1,hQ0,←hQf,hz,z4qa]
  skip
def z4kd (p q:z0Qc):Bool:=decide (p.from'=q.from')&&z1ob p.ents q.ents&&decide (p.prs=q.prs)
theorem z2Tc (p:z0Qc):z4kd p p=true:=by simp[z4kd,(z6Eb p.ents p.ents).2 rfl]
structure z0gc (p:z0Qc):Prop where
 f:z2e p.from'
 e:z3Ab p.ents
 n:p.ents.length≤1000
 r:∀l∈p.prs,z9n l∧l.length≤1000000
 k:p.prs.length≤1000
def gPrs (d:z0a):List (List (List UInt8)):=(gCs d).map gDs
def z6Zd (d:z0a):z0Qc:=match d with| .agg [a,b,c]=>⟨asI a,z9xb (gNn b) (gCs b),gPrs c⟩|_=>⟨0,[],[]⟩
theorem z9rd {l:List (List (List UInt8))} (h:∀x∈l,z9n x∧x.length≤1000000):(z1kc l).map gDs=l:=by
 induction l with
 |nil=>rfl
 |cons a l ih=>
  have:=ih fun x hx=>h x (by simp[hx])
  rw[z1kc] at this⊢
  rw[List.map_cons,List.map_cons,this,z3Ea,z1Ja (h a (by simp)).1]
theorem z7id {np:Option Bool} {p:z0Qc} (h:z0gc p):z6Zd (z98b np p)=p:=by
 obtain⟨f,e,r⟩:=p
 show(⟨f,z9xb e.length (z0sa e),(z1kc r).map gDs⟩:z0Qc)=_
 rw[z4kb h.e,z9rd h.r]
def z6ac:z1f:=⟨fun ds=>∃(np np':Option Bool) (p q:z0Qc),z0gc p∧z0gc q∧ds=[z98b np p,z98b np' q],fun ds=>bo (z4kd (z6Zd (nth ds 0)) (z6Zd (nth ds 1)))⟩
theorem z92c {np np':Option Bool} {p q:z0Qc} (h:z0gc p) (h':z0gc q):z6ac.pre [z98b np p,z98b np' q]=True:=eq_true ⟨np,np',p,q,h,h',rfl⟩
theorem z4ec {np np':Option Bool} {p q:z0Qc} (h:z0gc p) (h':z0gc q):z6ac.post [z98b np p,z98b np' q]=bo (z4kd p q):=by
 show bo (z4kd (z6Zd (z98b np p)) (z6Zd (z98b np' q)))=_
 rw[z7id h,z7id h']
theorem z4tc {nl nl':Option Bool} {a b:List (List UInt8)} (ha:z9n a) (hb:z9n b) (h:a.length≤10000000):z79a.pre [.sl .plain nl a.length (bys (dgs a)),.sl .plain nl' b.length (bys (dgs b))]=True:=eq_true ⟨nl,nl',a.length,b.length,dgs a,dgs b,h,z3za ha,z3za hb,rfl⟩
theorem z2cc {nl nl':Option Bool} {a b:List (List UInt8)} (ha:z9n a) (hb:z9n b):z79a.post [.sl .plain nl a.length (bys (dgs a)),.sl .plain nl' b.length (bys (dgs b))]=bo (decide (a=b)):=by
 show bo (gBs (bys (dgs a))==gBs (bys (dgs b)))=_
 rw[z7v,z7v]
 congr 1
 by_cases h:a=b
 ·simp[h]
 ·rw[decide_eq_false h,beq_eq_false_iff_ne]
  intro e
  apply h
  have:=congrArg (fun l=>gDs (.sl .plain none (l.length/16) (bys l))) e
  simp only[z3za ha,z3za hb,Nat.mul_div_cancel _ (show 0<16 by decide),z1Ja ha,z1Ja hb] at this
  exact this
theorem z2jd {l:List (List (List UInt8))} {i:Nat} (h:i<l.length):hdA ((z1kc l).drop i)= .sl .plain none l[i].length (bys (dgs l[i])):=by
 rw[z1kc,List.drop_eq_getElem_cons (by simpa using h),List.getElem_map];rfl
theorem z4zd (E:Env) (h376:E.G 376=z0Fd) (h60:E.G 60=z79a):∀ds,z6ac.pre ds→ds.length=z0ra.n∧awp E z0ra.body (z4xa z0ra.res (z6ac.post ds)) (z4H z0ra.wr ds):=by
 rintro _ ⟨np,np',p,q,h,h',rfl⟩
 rw[z4ec h h']
 obtain⟨f,e,r⟩:=p
 obtain⟨f',e',r'⟩:=q
 have p1:=z6td (nl:=none) (nl':=none) h.e h'.e h.n h'.n
 have q1:=z8xc (nl:=none) (nl':=none) h.e h'.e
 have hr:=h.r
 have hr':=h'.r
 have lr:(z1kc r).length=r.length:=List.length_map _
 have lr':(z1kc r').length=r'.length:=List.length_map _
 have hk:=h.k
 have hk':=h'.k
 simp only at hr hr' p1 q1 hk hk'
 generalize hZ:z4kd ⟨f,e,r⟩ ⟨f',e',r'⟩=Z
 simp only[z4kd] at hZ
 unfold z98b
 simp only[z5ta] at p1 q1⊢
 generalize hQf:z4xa z0ra.res (bo Z)=Qf
 by_cases c1:f=f'
 rotate_left
 ·have hz:Z=false:=by rw[←hZ];simp[c1]
  have n1:(f !=f')=true:=bne_iff_ne.2 c1
  simp(maxSteps:=1000000) (disch:=first|omega|(simp;done)|(simp;omega)) [z6G,z8pa,z7pa,z0ra,n1,kT,kF,dT,dF,hz,←hQf]
  skip
 by_cases c2:r.length=r'.length
 rotate_left
 ·have hz:Z=false:=by rw[←hZ,decide_eq_false (fun e:r=r'=>c2 (by rw[e]))];simp
  have c2':¬((r.length:Int)=r'.length):=by omega
  have n2:((r.length:Int) !=r'.length)=true:=bne_iff_ne.2 c2'
  simp(maxSteps:=1000000) (disch:=first|omega|(simp;done)|(simp;omega)) [z6G,z8pa,z7pa,z0ra,c1,n2,kT,kF,dT,dF,hz,←hQf]
  skip
 have c2':((r.length:Int)=r'.length):=by omega
 cases c3:z1ob e e' with
 |false=>
  have hz:Z=false:=by rw[←hZ,c3];simp
  simp(maxSteps:=1000000) (disch:=first|omega|(simp;done)|(simp;omega)) [z6G,z8pa,z7pa,z0ra,c1,c2',kT,kF,dT,dF,hz,←hQf,h376,p1,q1,c3]
  skip
 |true=>
  simp(maxSteps:=1000000) (disch:=first|omega|(simp;done)|(simp;omega)) [z6G,z8pa,z7pa,z0ra,z7Sa,c1,c2',kT,kF,dT,dF,h376,p1,q1,c3]
  refine z1g fun Q0 hQ0=> ?_
  subst c1
  refine z1v (fun i:Nat=>⟨[(0,.agg [i64 f,.sl .plain none e.length (z0sa e),.sl .plain np r.length (z1kc r)]),(1,.agg [i64 f,.sl .plain none e'.length (z0sa e'),.sl .plain np' r'.length (z1kc r')])],[(2,.bp 2 0),(3,.bp 3 0),(5,i64 i)],[(2,some [i64 f,.sl .plain none e.length (z0sa e),.sl .plain np r.length (z1kc r)]),(3,some [i64 f,.sl .plain none e'.length (z0sa e'),.sl .plain np' r'.length (z1kc r')])]⟩)
   (fun i=>r.length-i) (fun i=>i≤r.length∧r.take i=r'.take i) 0 (by simp) (by simp) fun i hi=> ?_
  obtain⟨hi,he⟩:=hi
  refine z1g fun Q1 hQ1=> ?_
  by_cases c:i<r.length
  ·have c':i<r'.length:=by omega
   have xa:=z2jd c
   have xb:=z2jd c'
   obtain⟨ga,gl⟩:=hr _ (List.getElem_mem c)
   obtain⟨gb,gm⟩:=hr' _ (List.getElem_mem c')
   have p2:=z4tc (nl:=none) (nl':=none) ga gb (by omega)
   have q2:=z2cc (nl:=none) (nl':=none) ga gb
   have l1:1≤r.length-i:=by omega
   have l2:1≤r'.length-i:=by omega
   by_cases eq:r[i]=r'[i]
   ·have hT:=z1Pb c c' he eq
    rw[decide_eq_true eq] at q2
    generalize r[i]=x at*
    generalize r'[i]=y at*
    simp(maxSteps:=1000000) (disch:=first|omega|(simp;done)|(simp;omega)) [z6G,z8pa,z7pa,z3Ba,z4Ha,kT,kF,dT,dF,c,c',lr,lr',xa,xb,h60,p2,q2,l1,l2,hQ1]
    exact⟨i+1,by omega,⟨by omega,hT⟩,by omega⟩
   ·have hz:Z=false:=by rw[←hZ,decide_eq_false (fun e':r=r'=>eq (by subst e';rfl))];simp
    rw[decide_eq_false eq] at q2
    generalize r[i]=x at*
    generalize r'[i]=y at*
    simp(maxSteps:=1000000) (disch:=first|omega|(simp;done)|(simp;omega)) [z6G,z8pa,z7pa,z3Ba,z4Ha,kT,kF,dT,dF,c,c',lr,lr',xa,xb,h60,p2,q2,l1,l2,hQ1,hQ0,←hQf,hz,z0ra]
    skip
  ·obtain rfl:i=r.length:=by omega
   have hz:Z=true:=by rw[←hZ,decide_eq_true (z8Nb c2 he)];simp[c3]
   simp(maxSteps:=1000000) (disch:=first|omega|(simp;done)|(simp;omega)) [z6G,z8pa,z7pa,z3Ba,z4Sa,kT,kF,dT,dF,hQ1,hQ0,←hQf,hz,z0ra]
   skip
end Go.Abs
end
