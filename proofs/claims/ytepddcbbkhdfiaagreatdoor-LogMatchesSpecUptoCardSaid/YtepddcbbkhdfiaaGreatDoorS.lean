/- Lemmas: an abstract interpreter, and what the functions compute. -/
import Derived.Test.YtepddcbbkhdfiaaGreatDoorG
import Derived.Test.YtepddcbbkhdfiaaGreatDoorH
import Derived.Test.YtepddcbbkhdfiaaGreatDoorQ
import Derived.Test.YtepddcbbkhdfiaaGreatDoorP
import Derived.Test.YtepddcbbkhdfiaaGreatDoorR
set_option linter.unusedSimpArgs false
set_option linter.unusedVariables false
set_option linter.unusedSectionVars false
section
namespace Go.Abs
set_option maxRecDepth 100000
def z7Db:z1c:=
 Yq (.block 1 (Yr [3,5,9,10,11] [Yi 13 1 9 11,Yj 14 13,Ym 5 14] (Yu [3,9,10,11] [YM 15 3,Ym 16 5,Yk 17 12 16,Yo 18 (.append 1 1 false (some false) none 15 (.s 17)),YM 3 18]))) (Yu [3,9,10,11] [YB 19 .add 11 1,Ym 11 19])
def z8Db:z1c:=
 Yr [3,9,10,11,12] [Yb 12 .lss 11 10] (Yq (Yd 12 (Yy [3,9,10,11]) (YY [3])) z7Db)
def z7Cb:z1c:=
 Yr [2] [YM 20 3,YM 2 20] .ret
def z6Qa:z1ka:=
 {n:=1,wr:=[],res:=[.t 2],body:=Yr [] [Yv 2 1] (Yr [3] [Ym 6 0,Yn 7 6,Yk 8 12 7,YM 3 8] (Yq (Yr [3,9,10,11] [Ym 9 0,Yn 10 9,Yc 11 0] (.block 0 (.loop z8Db))) z7Cb))}
def z4Ya:z1c:=
 Yq (.block 1 (Yu [3,4] [YM 14 3,Ym 15 0,Ym 16 4,Yi 17 1 15 16,Yj 18 17,Yk 19 30 18,YN 20 1 1 14 19,YM 3 20])) (Yu [3,4] [Ym 12 4,YB 13 .add 12 1,Ym 4 13])
def z5Ya:z1c:=
 Yq (Yr [3,4,11] [Ym 8 4,Ym 9 0,Yn 10 9,Yb 11 .lss 8 10] (Yd 11 (Yy [3,4]) (YY [3]))) z4Ya
def z20a:z1c:=
 Yr [2] [YM 21 3,YM 2 21] .ret
def z4xa:z1ka:=
 {n:=1,wr:=[],res:=[.t 2],body:=Yr [] [Yv 2 1] (Yr [3] [Ym 5 0,Yn 6 5,Yk 7 30 6,YM 3 7] (Yq (Yr [3,4] [Yc 4 0] (.block 0 (.loop z5Ya))) z20a))}
def z3Qb:z1c:=
 Yq (.block 1 (Yr [3,5,9,10,11] [Yi 13 1 9 11,Yj 14 13,Ym 5 14] (Yu [3,9,10,11] [YM 15 3,Ym 16 5,Yk 17 7 16,Yo 18 (.append 1 1 false (some false) none 15 (.s 17)),YM 3 18]))) (Yu [3,9,10,11] [YB 19 .add 11 1,Ym 11 19])
def z0Mb:z1c:=
 Yr [3,9,10,11,12] [Yb 12 .lss 11 10] (Yq (Yd 12 (Yy [3,9,10,11]) (YY [3])) z3Qb)
def z1Lb:z1c:=
 Yr [2] [YM 20 3,YM 2 20] .ret
def z45b:z1ka:=
 {n:=1,wr:=[],res:=[.t 2],body:=Yr [] [Yv 2 1] (Yr [3] [Ym 6 0,Yn 7 6,Yk 8 12 7,YM 3 8] (Yq (Yr [3,9,10,11] [Ym 9 0,Yn 10 9,Yc 11 0] (.block 0 (.loop z0Mb))) z1Lb))}
def z2Lb:z1c:=
 Yq (.block 1 (YR [3,5,9,10,11] [.norm [5]] [Yi 13 16 9 11,YJ 14 16 13,Yz 5 5 16,Ys 16 5 5 14] (Yu [3,9,10,11] [YM 15 3,Yo 16 (.slArr 16 1 (.s 5) none none none),Yo 17 (.append 1 1 false (some false) (some 5) 15 (.s 16)),YM 3 17]))) (.region [3,9,10,11] [.drop [5]] [YB 18 .add 11 1,Ym 11 18])
def z3Pb:z1c:=
 Yr [3,9,10,11,12] [Yb 12 .lss 11 10] (Yq (Yd 12 (Yy [3,9,10,11]) (YY [3])) z2Lb)
def z5Qb:z1c:=
 Yr [2] [YM 19 3,YM 2 19] .ret
def z64b:z1ka:=
 {n:=1,wr:=[],res:=[.t 2],body:=Yr [] [Yv 2 1] (Yr [3] [Ym 6 0,Yn 7 6,Yk 8 12 7,YM 3 8] (Yq (Yr [3,9,10,11] [Ym 9 0,Yn 10 9,Yc 11 0] (.block 0 (.loop z3Pb))) z5Qb))}
def z8Tb:z1c:=
 Yq (.block 2 (Yr [5,6,7,9,46,47,48] [Yi 50 1 46 48,Yj 51 50,Ym 9 51] (Yu [5,6,7,46,47,48] [Ym 52 7,YW 53 .shl 52 (u64 8),Ym 54 9,Ym 55 5,Yb 56 .xor 54 55,YE 57 .u64 56,Yb 58 .or 53 57,Ym 7 58]))) (Yu [5,6,7,46,47,48] [YB 59 .add 48 1,Ym 48 59])
def z3Tb:z1c:=
 Yr [5,6,7,46,47,48,49] [Yb 49 .lss 48 47] (Yq (Yd 49 (Yy [5,6,7,46,47,48]) (.ghost (.keep [5,6,7]) (.exit 1))) z8Tb)
def z9Sb:z1c:=
 Yr [2,3,4] [Ym 67 7,YE 68 .i64 67,Ym 69 6,YB 70 .add 69 1,Ym 2 68,Ym 3 70,Yc 4 0] .ret
def z2Ub:z1c:=
 Yq (Yr [6,7,64] [Ym 63 5,YW 64 .gtr 63 (u8 0)] (Yd 64 (Yu [6,7] [Ym 65 7,YU 66 .xor 65,Ym 7 66]) (Yy [6,7]))) z9Sb
def z6Tb:z1c:=
 Yq (Yr [5,6,7,62] [Ym 60 7,YW 61 .shr 60 (u64 63),YW 62 .gtr 61 (u64 0)] (Yd 62 (Yr [2,3,4] [Yc 2 0,Yc 3 0,Yc 4 6] .ret) (Yy [5,6,7]))) z2Ub
def z0Ub:z1c:=
 Yr [5,6,7] [Yo 7 (.mv false (.c (u64 0)))] (Yq (Yr [5,6,7,46,47,48] [Ym 43 0,Ym 44 6,YB 45 .add 44 1,Yo 46 (.slSl 1 (.s 43) (some (.c (i64 1))) (some (.s 45)) none),Yn 47 46,Yc 48 0] (.block 1 (.loop z3Tb))) z6Tb)
def z9Tb:z1c:=
 Yr [5,6] [Ym 17 0,YI 18 1 17 0,Yj 19 18,Ym 20 5,Yb 21 .xor 19 20,YE 22 .i64 21,YB 23 .sub 22 128,Ym 6 23] (Yq (.block 0 (Yr [5,6,24] [Ym 25 6,YB 26 .gtr 25 8,Ym 24 26] (Yd 24 (Yr [2,3,4] [Yc 2 0,Yc 3 0,Yc 4 6] .ret) (Yr [5,6,27] [Ym 28 0,Yn 29 28,Ym 30 6,Yb 31 .leq 29 30,Ym 27 31] (Yd 27 (Yr [2,3,4] [Yc 2 0,Yc 3 0,Yc 4 5] .ret) (Yr [5,6,32] [Ym 33 6,YB 34 .gtr 33 0,Ym 35 34,YG 35 (Ym 36 0),YG 35 (YI 37 1 36 1),YG 35 (Yj 38 37),YG 35 (Ym 39 5),YG 35 (Yb 40 .xor 38 39),YG 35 (YW 41 .eql 40 (u8 0)),Yp 42 35 41,Ym 32 42] (Yd 32 (Yr [2,3,4] [Yc 2 0,Yc 3 0,Yc 4 6] .ret) (Yy [5,6])))))))) z0Ub)
def z2Tb:z1c:=
 Yr [5] [Yo 5 (.mv false (.c (u8 0)))] (Yq (Yr [5,16] [Ym 13 0,YI 14 1 13 0,Yj 15 14,YW 16 .lss 15 (u8 128)] (Yd 16 (Yu [5] [Yo 5 (.mv false (.c (u8 255)))]) (Yy [5]))) z9Tb)
def z4fc:z1ka:=
 {n:=1,wr:=[],res:=[.t 2,.t 3,.t 4],body:=Yr [] [Yc 2 0,Yc 3 0,Yc 4 0] (Yq (Yr [12] [Ym 10 0,Yn 11 10,YB 12 .eql 11 0] (Yd 12 (Yr [2,3,4] [Yc 2 0,Yc 3 0,Yc 4 5] .ret) (Yy []))) z2Tb)}
def z9Jb:z1c:=
 Yr [2,3,4] [Ym 17 0,Ym 18 6,Ym 19 6,Ym 20 5,Yb 21 .add 19 20,Yo 22 (.slSl 1 (.s 17) (some (.s 18)) (some (.s 21)) none),Yo 23 (.toStr none (.s 22)),Ym 24 6,Ym 25 5,Yb 26 .add 24 25,Ym 2 23,Ym 3 26,Yc 4 0] .ret
def z63b:z1ka:=
 {n:=1,wr:=[],res:=[.t 2,.t 3,.t 4],body:=Yr [] [Yo 2 (.mv false (.c (st []))),Yc 3 0,Yc 4 0] (Yr [5,6,7] [Ym 9 0,YC 10 47 9 1,Ym 8 10,Ye 11 0 8,Ye 12 1 8,Ye 13 2 8,Ym 5 11,Ym 6 12,Ym 7 13] (Yq (Yr [5,6,7,15] [Ym 14 7,YB 15 .neq 14 0] (Yd 15 (Yr [2,3,4] [Ym 16 7,Yo 2 (.mv false (.c (st []))),Yc 3 0,Ym 4 16] .ret) (Yy [5,6]))) z9Jb))}
def z0Lb:z1c:=
 Yu [6,8,9,25,26] [YM 37 9,Ym 38 10,Yo 39 (.buildSl 1 1 [i64 0] [(0,1,.s 38)]),YN 40 1 8 37 39,Ym 41 11,YM 9 40,Ym 6 41]
def z8Nb:z1c:=
 Yq (.block 1 (YR [8,9,10,11,12,25,26] [.norm [24,1024]] [Ym 29 8,Yo 30 (.callm 61 (some (.s 29)) [] [(0,24),(1,1024)] []),Ym 28 30,Ye 31 0 28,Ye 32 1 28,Ye 33 2 28,Ym 10 31,Ym 11 32,Ym 12 33] (Yq (Yr [8,9,10,11,12,25,26,35] [Ym 34 12,YB 35 .neq 34 0] (Yd 35 (Yr [2,3,4] [Ym 36 12,Yv 2 1,Yc 3 0,Ym 4 36] .ret) (Yy [8,9,10,11,25,26]))) z0Lb))) (Yu [6,8,9,25,26] [YB 42 .add 26 1,Ym 26 42])
def z5Nb:z1c:=
 Yr [6,8,9,25,26,27] [Yb 27 .lss 26 25] (Yq (Yd 27 (Yy [8,9,25,26]) (YY [6,9])) z8Nb)
def z9Mb:z1c:=
 Yr [2,3,4] [YM 43 9,Ym 44 6,YM 2 43,Ym 3 44,Yc 4 0] .ret
def z3Nb:z1c:=
 YR [5,6,8] [.norm [24,1024]] [Ym 22 0,Ym 23 6,Yo 24 (.callm 51 none [.s 22,.s 23] [] [(2,24),(3,1024)]),Ym 8 24] (Yr [5,6,8,9] [Yv 9 1] (Yq (Yr [6,8,9,25,26] [Ym 25 5,Yc 26 0] (.block 0 (.loop z5Nb))) z9Mb))
def z05b:z1ka:=
 {n:=1,wr:=[],res:=[.t 2,.t 3,.t 4],body:=Yr [] [Yv 2 1,Yc 3 0,Yc 4 0] (Yr [5,6,7] [Ym 14 0,YC 15 47 14 1,Ym 13 15,Ye 16 0 13,Ye 17 1 13,Ye 18 2 13,Ym 5 16,Ym 6 17,Ym 7 18] (Yq (Yr [5,6,7,20] [Ym 19 7,YB 20 .neq 19 0] (Yd 20 (Yr [2,3,4] [Ym 21 7,Yv 2 1,Yc 3 0,Ym 4 21] .ret) (Yy [5,6]))) z3Nb))}
def z0Pa:z1c:=
 Yq (.block 1 (Yr [5,25] [Ym 17 0,Ym 18 5,Yi 19 1 17 18,Yj 20 19,Ym 21 1,Ym 22 5,Yi 23 1 21 22,Yj 24 23,Yb 25 .neq 20 24] (Yd 25 (Yr [4] [Yw 4 false] .ret) (Yy [5])))) (Yu [5] [Ym 15 5,YB 16 .add 15 1,Ym 5 16])
def z3Pa:z1c:=
 Yq (Yr [5,14] [Ym 11 5,Ym 12 0,Yn 13 12,Yb 14 .lss 11 13] (Yd 14 (Yy [5]) (YY []))) z0Pa
def z2Pa:z1c:=
 Yr [4] [Yw 4 true] .ret
def z1Pa:z1c:=
 Yq (Yr [5] [Yc 5 0] (.block 0 (.loop z3Pa))) z2Pa
def z1ua:z1ka:=
 {n:=2,wr:=[],res:=[.t 4],body:=Yr [] [Yw 4 false] (Yq (Yr [10] [Ym 6 0,Yn 7 6,Ym 8 1,Yn 9 8,Yb 10 .neq 7 9] (Yd 10 (Yr [4] [Yw 4 false] .ret) (Yy []))) z1Pa)}
def z1Cb:z1c:=
 Yu [6,8,21,22] [YM 35 8,Ym 36 9,Yo 37 (.buildSl 1 1 [st []] [(0,1,.s 36)]),YN 38 1 16 35 37,Ym 39 6,Ym 40 10,Yb 41 .add 39 40,YM 8 38,Ym 6 41]
def z5Bb:z1c:=
 Yq (.block 1 (Yr [6,8,9,10,11,21,22] [Ym 25 0,Ym 26 6,YF 27 1 25 26,Yk 28 48 27,Ym 24 28,Ye 29 0 24,Ye 30 1 24,Ye 31 2 24,Ym 9 29,Ym 10 30,Ym 11 31] (Yq (Yr [6,8,9,10,11,21,22,33] [Ym 32 11,YB 33 .neq 32 0] (Yd 33 (Yr [2,3,4] [Ym 34 11,Yv 2 1,Yc 3 0,Ym 4 34] .ret) (Yy [6,8,9,10,21,22]))) z1Cb))) (Yu [6,8,21,22] [YB 42 .add 22 1,Ym 22 42])
def z4Bb:z1c:=
 Yr [6,8,21,22,23] [Yb 23 .lss 22 21] (Yq (Yd 23 (Yy [6,8,21,22]) (YY [6,8])) z5Bb)
def z0Cb:z1c:=
 Yr [2,3,4] [YM 43 8,Ym 44 6,YM 2 43,Ym 3 44,Yc 4 0] .ret
def z2Bb:z1c:=
 Yr [5,6,8] [Yv 8 1] (Yq (Yr [6,8,21,22] [Ym 21 5,Yc 22 0] (.block 0 (.loop z4Bb))) z0Cb)
def z6Nb:z1ka:=
 {n:=1,wr:=[],res:=[.t 2,.t 3,.t 4],body:=Yr [] [Yv 2 1,Yc 3 0,Yc 4 0] (Yr [5,6,7] [Ym 13 0,YC 14 47 13 1,Ym 12 14,Ye 15 0 12,Ye 16 1 12,Ye 17 2 12,Ym 5 15,Ym 6 16,Ym 7 17] (Yq (Yr [5,6,7,19] [Ym 18 7,YB 19 .neq 18 0] (Yd 19 (Yr [2,3,4] [Ym 20 7,Yv 2 1,Yc 3 0,Ym 4 20] .ret) (Yy [5,6]))) z2Bb))}
def z8Bb:z1c:=
 Yq (.block 1 (Yr [6,8,18,19] [YM 21 8,Ym 22 0,Ym 23 6,Ym 24 6,YB 25 .add 24 16,Yo 26 (.slSl 1 (.s 22) (some (.s 23)) (some (.s 25)) none),Yo 27 (.s2ap 16 (.s 26)),YJ 28 16 27,YQ 29 28,YN 30 16 16 21 29,YM 8 30] (Yu [6,8,18,19] [Ym 31 6,YB 32 .add 31 16,Ym 6 32]))) (Yu [6,8,18,19] [YB 33 .add 19 1,Ym 19 33])
def z7Bb:z1c:=
 Yr [6,8,18,19,20] [Yb 20 .lss 19 18] (Yq (Yd 20 (Yy [6,8,18,19]) (YY [6,8])) z8Bb)
def z9Bb:z1c:=
 Yr [2,3,4] [YM 34 8,Ym 35 6,YM 2 34,Ym 3 35,Yc 4 0] .ret
def z4Cb:z1c:=
 Yr [5,6,8] [Yv 8 16] (Yq (Yr [6,8,18,19] [Ym 18 5,Yc 19 0] (.block 0 (.loop z7Bb))) z9Bb)
def z7Qb:z1ka:=
 {n:=1,wr:=[],res:=[.t 2,.t 3,.t 4],body:=Yr [] [Yv 2 16,Yc 3 0,Yc 4 0] (Yr [5,6,7] [Ym 10 0,YC 11 47 10 16,Ym 9 11,Ye 12 0 9,Ye 13 1 9,Ye 14 2 9,Ym 5 12,Ym 6 13,Ym 7 14] (Yq (Yr [5,6,7,16] [Ym 15 7,YB 16 .neq 15 0] (Yd 16 (Yr [2,3,4] [Ym 17 7,Yv 2 16,Yc 3 0,Ym 4 17] .ret) (Yy [5,6]))) z4Cb))}
def z0Ka:z1c:=
 Yq (.block 1 (Yr [5,25] [Ym 17 0,Ym 18 5,Yi 19 16 17 18,YJ 20 16 19,Ym 21 1,Ym 22 5,Yi 23 16 21 22,YJ 24 16 23,Yo 25 (.eqF (ks8 16) true (.s 20) (.s 24))] (Yd 25 (Yr [4] [Yw 4 false] .ret) (Yy [5])))) (Yu [5] [Ym 15 5,YB 16 .add 15 1,Ym 5 16])
def z9Ja:z1c:=
 Yq (Yr [5,14] [Ym 11 5,Ym 12 0,Yn 13 12,Yb 14 .lss 11 13] (Yd 14 (Yy [5]) (YY []))) z0Ka
def z2Ka:z1c:=
 Yr [4] [Yw 4 true] .ret
def z3Ka:z1c:=
 Yq (Yr [5] [Yc 5 0] (.block 0 (.loop z9Ja))) z2Ka
def z4sa:z1ka:=
 {n:=2,wr:=[],res:=[.t 4],body:=Yr [] [Yw 4 false] (Yq (Yr [10] [Ym 6 0,Yn 7 6,Ym 8 1,Yn 9 8,Yb 10 .neq 7 9] (Yd 10 (Yr [4] [Yw 4 false] .ret) (Yy []))) z3Ka)}
def z91b:z1c:=
 Yr [4,5,6] [Ym 28 4,Ym 29 5,Ym 30 6,Ym 4 28,Ym 5 29,Ym 6 30] .ret
def z0pc:z1ka:=
 {n:=2,wr:=[],res:=[.t 4,.t 5,.t 6],body:=Yr [] [Yc 4 0,Yc 5 0,Yc 6 0] (Yr [4,5,6] [Ym 8 0,Yk 9 45 8,Ym 7 9,Ye 10 0 7,Ye 11 1 7,Ye 12 2 7,Ym 4 10,Ym 5 11,Ym 6 12] (Yq (.block 0 (Yr [4,5,6,13] [Ym 14 6,YB 15 .neq 14 0,Ym 13 15] (Yd 13 (Yy [4,5,6]) (Yr [4,5,6,16] [Ym 17 4,YB 18 .lss 17 0,Ym 16 18] (Yd 16 (Yu [4,5,6] [Yc 6 6]) (Yr [4,5,6,19] [Ym 20 4,Ym 21 0,Yn 22 21,Ym 23 5,Yb 24 .sub 22 23,Ym 25 1,Yb 26 .quo 24 25,Yb 27 .gtr 20 26,Ym 19 27] (Yd 19 (Yu [4,5,6] [Yc 6 5]) (Yy [4,5,6])))))))) z91b))}
def z1ab:z1ka:=
 {n:=2,wr:=[],res:=[.t 4],body:=YR [2,3] [.norm [2,3]] [Yo 2 (.box 2 none true (.s 0)),Yo 3 (.box 3 none false (.s 1)),Yo 4 (.mv false (.c (.lit .nilFunc)))] (Yr [4] [Yo 5 (.mkfn 61 [] [.s 2,.s 3]),Ym 4 5] .ret)}
def z9Va:z1ka:=
 {n:=2,wr:=[],res:=[.t 2,.t 3,.t 4],body:=Yr [0,1] [Yc 2 0,Yc 3 0,Yc 4 0] (YR [0,1,5,6,7] [.norm [0,1]] [Yl 9 0 0,Yl 10 1 1,YF 11 1 9 10,Yk 12 45 11,Ym 8 12,Ye 13 0 8,Ye 14 1 8,Ye 15 2 8,Ym 5 13,Ym 6 14,Ym 7 15] (YR [0,1,5,7] [.norm [0,1]] [Yl 16 1 1,Ym 17 6,Yb 18 .add 16 17,YS 1 1 18] (YR [0,1,2,3,4] [.norm [0,1]] [Ym 19 5,Yl 20 1 1,Ym 21 7,Ym 2 19,Ym 3 20,Ym 4 21] .ret)))}
end Go.Abs
end

section
namespace Go.Abs
theorem z19d (d:List UInt8) (i:Nat):d.take (i*16)++(d.drop (i*16)).take 16=d.take ((i+1)*16):=by
 rw[show(i+1)*16=i*16+16 by omega,List.take_add]
theorem z85c (E:Env):∀ds,z3qb.pre ds→ds.length=z4sa.n∧awp E z4sa.body (z6va z4sa.res (z3qb.post ds)) (z4H z4sa.wr ds):=by
 rintro _ ⟨nl,nl',n,m,a,b,hn,ha,hb,rfl⟩
 simp(maxSteps:=1000000) (disch:=first|omega|simp;done|simp;omega) [z7G,z8pa,z7pa,z4sa]
 rw[z4h]
 refine⟨by simp,fun h=> ?_,fun h=> ?_⟩<;>simp at h
 ·have:(a==b)=false:=by simpa using fun e:a=b=>h (by rw[e] at ha;omega)
  simp(maxSteps:=1000000) (disch:=first|omega|simp;done|simp;omega) [z7G,z8pa,z7pa,z3qb,this]
 simp(maxSteps:=1000000) (disch:=first|omega|simp;done|simp;omega) [z7G,z8pa,z7pa,z3Ka]
 have hl:n=m:=by omega
 subst hl
 refine z1g fun Q0 hQ0=> ?_
 refine z2v (fun i:Nat=>⟨[(0,.sl .plain nl n (bys a)),(1,.sl .plain nl' n (bys b))],[(5,i64 i)],[]⟩)
  (fun i=>n-i) (fun i=>i≤n∧a.take (i*16)=b.take (i*16)) 0 rfl (by simp) fun i hi=> ?_
 obtain⟨hi,he⟩:=hi
 refine z1g fun Q1 hQ1=> ?_
 simp(maxSteps:=1000000) (disch:=first|omega|simp;done|simp;omega) [z7G,z8pa,z7pa,z9Ja]
 rw[z4h]
 refine⟨by simp,fun h1=> ?_,fun h1=> ?_⟩<;>simp at h1
 ·have h1':i<n:=by omega
  have la:((a.drop (i*16)).take 16).length=16:=by simp;omega
  have lb:((b.drop (i*16)).take 16).length=16:=by simp;omega
  have sa:=z19d a i
  have sb:=z19d b i
  simp(maxSteps:=1000000) (disch:=first|omega|simp;done|simp;omega) [z7G,z8pa,z7pa,z0Ka,z23a,la,lb]
  refine⟨by omega,by omega,by omega,by omega,?_⟩
  rw[z4h]
  refine⟨by simp,fun h2=> ?_,fun h2=> ?_⟩<;>simp at h2
  ·have:(a==b)=false:=by simpa using fun e:a=b=>h2 (by rw[e])
   simp(maxSteps:=1000000) (disch:=first|omega|simp;done|simp;omega) [z7G,z8pa,z7pa,hQ1,hQ0,z3qb,this]
  ·simp(maxSteps:=1000000) (disch:=first|omega|simp;done|simp;omega) [z7G,z8pa,z7pa,hQ1]
   refine⟨i+1,by omega,⟨by omega,?_⟩,by simp⟩
   rw[←sa,←sb,he,h2]
 ·have e:i=n:=by omega
  subst e
  have:(a==b)=true:=by
   rw[List.take_of_length_le (by omega),List.take_of_length_le (by omega)] at he
   simpa using he
  simp(maxSteps:=1000000) (disch:=first|omega|simp;done|simp;omega) [z7G,z8pa,z7pa,hQ1,hQ0,z2Ka,z3qb,this]
end Go.Abs
end

section
namespace Go.Abs
set_option maxRecDepth 100000
set_option maxHeartbeats 8000000
def z8ub:List z2n→List z2n→Bool
 |[],[]=>true
 |x::a,y::b=>z5Qa x y&&z8ub a b
 |_,_=>false
theorem z2zb:∀a b:List z2n,z8ub a b=true↔a=b
 |[],[]=>by simp[z8ub]
 |[],_::_=>by simp[z8ub]
 |_::_,[]=>by simp[z8ub]
 |x::a,y::b=>by simp[z8ub,z2zb a b,z8Hb]
theorem z3Gc {a b:List z2n} (h:a≠b):z8ub a b=false:=by
 cases hc:z8ub a b with
 |false=>rfl
 |true=>exact absurd ((z2zb a b).1 hc) h
theorem z2dd {a b:z2n} (h:a≠b):z5Qa a b=false:=by
 cases hc:z5Qa a b with
 |false=>rfl
 |true=>exact absurd ((z8Hb a b).1 hc) h
def z4rd:z1f:=⟨fun ds=>∃(nl nl':Option Bool) (a b:List z2n),z2vb a∧z2vb b∧a.length≤1000∧b.length≤1000∧ds=[z5sa nl a,z5sa nl' b],fun ds=>bo (z8ub (z7vb (gNn (nth ds 0)) (gCs (nth ds 0))) (z7vb (gNn (nth ds 1)) (gCs (nth ds 1))))⟩
theorem z7Vc {nl nl':Option Bool} {a b:List z2n} (ha:z2vb a) (hb:z2vb b) (h1:a.length≤1000) (h2:b.length≤1000):z4rd.pre [z5sa nl a,z5sa nl' b]=True:=eq_true ⟨nl,nl',a,b,ha,hb,h1,h2,rfl⟩
theorem z5ec {nl nl':Option Bool} {a b:List z2n} (ha:z2vb a) (hb:z2vb b):z4rd.post [z5sa nl a,z5sa nl' b]=bo (z8ub a b):=by
 show bo (z8ub (z7vb a.length (z6ra a)) (z7vb b.length (z6ra b)))=_
 rw[z5ib ha,z5ib hb]
theorem z6Sd (E:Env) (h329:E.G 329=z6Sb):∀ds,z4rd.pre ds→ds.length=z4qa.n∧awp E z4qa.body (z6va z4qa.res (z4rd.post ds)) (z4H z4qa.wr ds):=by
 rintro _ ⟨nl,nl',a,b,ha,hb,hla,hlb,rfl⟩
 rw[z5ec ha hb]
 unfold z5sa
 have ea:=z4ta ha
 have eb:=z4ta hb
 generalize hQf:z6va z4qa.res (bo (z8ub a b))=Qf
 by_cases h:a.length=b.length
 rotate_left
 ·have hz:z8ub a b=false:=z3Gc fun e=>h (by rw[e])
  have h':¬((a.length:Int)=b.length):=by omega
  simp(maxSteps:=1000000) (disch:=first|omega|simp;done|simp;omega) [z7G,z8pa,z7pa,z4qa,h',kT,kF,hz,←hQf]
  skip
 have h':((a.length:Int)=b.length):=by omega
 simp(maxSteps:=1000000) (disch:=first|omega|simp;done|simp;omega) [z7G,z8pa,z7pa,z4qa,z4Ka,h',kT,kF]
 refine z1g fun Q0 hQ0=> ?_
 refine z2v (fun i:Nat=>⟨[(0,.sl .plain nl a.length (z6ra a)),(1,.sl .plain nl' b.length (z6ra b))],[(5,i64 i)],[]⟩)
  (fun i=>a.length-i) (fun i=>i≤a.length∧a.take i=b.take i) 0 (by simp) (by simp) fun i hi=> ?_
 obtain⟨hi,he⟩:=hi
 refine z1g fun Q1 hQ1=> ?_
 by_cases c:i<a.length
 ·have c':i<b.length:=by omega
  have xa:=z8Ab ha c
  have xb:=z8Ab hb c'
  have sa:=ha _ (List.getElem_mem c)
  have sb:=hb _ (List.getElem_mem c')
  have p:=z6Ec (nc:=none) (nm:=none) (ng:=none) (nc':=none) (nm':=none) (ng':=none) sa sb
  have q:=z4Jb (nc:=none) (nm:=none) (ng:=none) (nc':=none) (nm':=none) (ng':=none) sa sb
  have la:=z5vb sa
  have lb:=z5vb sb
  have l1:30≤a.length*30-i*30:=by omega
  have l2:i*30≤a.length*30:=by omega
  have l3:30≤b.length*30-i*30:=by omega
  have l4:i*30≤b.length*30:=by omega
  by_cases e:a[i]=b[i]
  ·have hz:z5Qa a[i] b[i]=true:=(z8Hb _ _).2 e
   have hT:=z9Vb c c' he e
   generalize a[i]=x at*
   generalize b[i]=y at*
   simp(maxSteps:=1000000) (disch:=first|omega|simp;done|simp;omega) [z7G,z8pa,z7pa,z9wa,z6Ba,kT,kF,dT,dF,c,c',ea,eb,xa,xb,h329,p,q,la,lb,l1,l2,l3,l4,hz,hQ1]
   exact⟨i+1,by omega,⟨by omega,hT⟩,by omega⟩
  ·have hz:z5Qa a[i] b[i]=false:=z2dd e
   have hz2:z8ub a b=false:=z3Gc fun e'=>e (by subst e';rfl)
   generalize a[i]=x at*
   generalize b[i]=y at*
   simp(maxSteps:=1000000) (disch:=first|omega|simp;done|simp;omega) [z7G,z8pa,z7pa,z9wa,z6Ba,kT,kF,dT,dF,c,c',ea,eb,xa,xb,h329,p,q,la,lb,l1,l2,l3,l4,hz,hQ1,hQ0,←hQf,hz2,z4qa]
   skip
 ·obtain rfl:i=a.length:=by omega
  have hz:z8ub a b=true:=(z2zb a b).2 (z4Ub h he)
  simp(maxSteps:=1000000) (disch:=first|omega|simp;done|simp;omega) [z7G,z8pa,z7pa,z9wa,z7Ja,kT,kF,dT,dF,hQ1,hQ0,←hQf,hz,z4qa]
  skip
def z2sd (p q:z8Wc):Bool:=decide (p.from'=q.from')&&z8ub p.ents q.ents&&decide (p.prs=q.prs)
theorem z20c (p:z8Wc):z2sd p p=true:=by simp[z2sd,(z2zb p.ents p.ents).2 rfl]
structure z2nc (p:z8Wc):Prop where
 f:z2e p.from'
 e:z2vb p.ents
 n:p.ents.length≤1000
 r:∀l∈p.prs,z9n l∧l.length≤1000000
 k:p.prs.length≤1000
def gPrs (d:z0a):List (List (List UInt8)):=(gCs d).map gDs
def z78d (d:z0a):z8Wc:=match d with| .agg [a,b,c]=>⟨asI a,z7vb (gNn b) (gCs b),gPrs c⟩|_=>⟨0,[],[]⟩
theorem z8zd {l:List (List (List UInt8))} (h:∀x∈l,z9n x∧x.length≤1000000):(z36b l).map gDs=l:=by
 induction l with
 |nil=>rfl
 |cons a l ih=>
  have:=ih fun x hx=>h x (by simp[hx])
  rw[z36b] at this⊢
  rw[List.map_cons,List.map_cons,this,z5Aa,z1Ea (h a (by simp)).1]
theorem z2qd {np:Option Bool} {p:z8Wc} (h:z2nc p):z78d (z54b np p)=p:=by
 obtain⟨f,e,r⟩:=p
 show(⟨f,z7vb e.length (z6ra e),(z36b r).map gDs⟩:z8Wc)=_
 rw[z5ib h.e,z8zd h.r]
def z3sc:z1f:=⟨fun ds=>∃(np np':Option Bool) (p q:z8Wc),z2nc p∧z2nc q∧ds=[z54b np p,z54b np' q],fun ds=>bo (z2sd (z78d (nth ds 0)) (z78d (nth ds 1)))⟩
theorem z4ad {np np':Option Bool} {p q:z8Wc} (h:z2nc p) (h':z2nc q):z3sc.pre [z54b np p,z54b np' q]=True:=eq_true ⟨np,np',p,q,h,h',rfl⟩
theorem z7lc {np np':Option Bool} {p q:z8Wc} (h:z2nc p) (h':z2nc q):z3sc.post [z54b np p,z54b np' q]=bo (z2sd p q):=by
 show bo (z2sd (z78d (z54b np p)) (z78d (z54b np' q)))=_
 rw[z2qd h,z2qd h']
theorem z1Ac {nl nl':Option Bool} {a b:List (List UInt8)} (ha:z9n a) (hb:z9n b) (h:a.length≤10000000):z3qb.pre [.sl .plain nl a.length (bys (dgs a)),.sl .plain nl' b.length (bys (dgs b))]=True:=eq_true ⟨nl,nl',a.length,b.length,dgs a,dgs b,h,z2ua ha,z2ua hb,rfl⟩
theorem z6jc {nl nl':Option Bool} {a b:List (List UInt8)} (ha:z9n a) (hb:z9n b):z3qb.post [.sl .plain nl a.length (bys (dgs a)),.sl .plain nl' b.length (bys (dgs b))]=bo (decide (a=b)):=by
 show bo (gBs (bys (dgs a))==gBs (bys (dgs b)))=_
 rw[z8v,z8v]
 congr 1
 by_cases h:a=b
 ·simp[h]
 ·rw[decide_eq_false h,beq_eq_false_iff_ne]
  intro e
  apply h
  have:=congrArg (fun l=>gDs (.sl .plain none (l.length/16) (bys l))) e
  simp only[z2ua ha,z2ua hb,Nat.mul_div_cancel _ (show 0<16 by decide),z1Ea ha,z1Ea hb] at this
  exact this
theorem z9qd {l:List (List (List UInt8))} {i:Nat} (h:i<l.length):hdA ((z36b l).drop i)= .sl .plain none l[i].length (bys (dgs l[i])):=by
 rw[z36b,List.drop_eq_getElem_cons (by simpa using h),List.getElem_map];rfl
theorem z0Id (E:Env) (h376:E.G 376=z4rd) (h60:E.G 60=z3qb):∀ds,z3sc.pre ds→ds.length=z0ra.n∧awp E z0ra.body (z6va z0ra.res (z3sc.post ds)) (z4H z0ra.wr ds):=by
 rintro _ ⟨np,np',p,q,h,h',rfl⟩
 rw[z7lc h h']
 obtain⟨f,e,r⟩:=p
 obtain⟨f',e',r'⟩:=q
 have p1:=z7Vc (nl:=none) (nl':=none) h.e h'.e h.n h'.n
 have q1:=z5ec (nl:=none) (nl':=none) h.e h'.e
 have hr:=h.r
 have hr':=h'.r
 have lr:(z36b r).length=r.length:=List.length_map _
 have lr':(z36b r').length=r'.length:=List.length_map _
 have hk:=h.k
 have hk':=h'.k
 simp only at hr hr' p1 q1 hk hk'
 generalize hZ:z2sd ⟨f,e,r⟩ ⟨f',e',r'⟩=Z
 simp only[z2sd] at hZ
 unfold z54b
 simp only[z5sa] at p1 q1⊢
 generalize hQf:z6va z0ra.res (bo Z)=Qf
 by_cases c1:f=f'
 rotate_left
 ·have hz:Z=false:=by rw[←hZ];simp[c1]
  have n1:(f !=f')=true:=bne_iff_ne.2 c1
  simp(maxSteps:=1000000) (disch:=first|omega|simp;done|simp;omega) [z7G,z8pa,z7pa,z0ra,n1,kT,kF,dT,dF,hz,←hQf]
  skip
 by_cases c2:r.length=r'.length
 rotate_left
 ·have hz:Z=false:=by rw[←hZ,decide_eq_false (fun e:r=r'=>c2 (by rw[e]))];simp
  have c2':¬((r.length:Int)=r'.length):=by omega
  have n2:((r.length:Int) !=r'.length)=true:=bne_iff_ne.2 c2'
  simp(maxSteps:=1000000) (disch:=first|omega|simp;done|simp;omega) [z7G,z8pa,z7pa,z0ra,c1,n2,kT,kF,dT,dF,hz,←hQf]
  skip
 have c2':((r.length:Int)=r'.length):=by omega
 cases c3:z8ub e e' with
 |false=>
  have hz:Z=false:=by rw[←hZ,c3];simp
  simp(maxSteps:=1000000) (disch:=first|omega|simp;done|simp;omega) [z7G,z8pa,z7pa,z0ra,c1,c2',kT,kF,dT,dF,hz,←hQf,h376,p1,q1,c3]
  skip
 |true=>
  simp(maxSteps:=1000000) (disch:=first|omega|simp;done|simp;omega) [z7G,z8pa,z7pa,z0ra,z8Za,c1,c2',kT,kF,dT,dF,h376,p1,q1,c3]
  refine z1g fun Q0 hQ0=> ?_
  subst c1
  refine z2v (fun i:Nat=>⟨[(0,.agg [i64 f,.sl .plain none e.length (z6ra e),.sl .plain np r.length (z36b r)]),(1,.agg [i64 f,.sl .plain none e'.length (z6ra e'),.sl .plain np' r'.length (z36b r')])],[(2,.bp 2 0),(3,.bp 3 0),(5,i64 i)],[(2,some [i64 f,.sl .plain none e.length (z6ra e),.sl .plain np r.length (z36b r)]),(3,some [i64 f,.sl .plain none e'.length (z6ra e'),.sl .plain np' r'.length (z36b r')])]⟩)
   (fun i=>r.length-i) (fun i=>i≤r.length∧r.take i=r'.take i) 0 (by simp) (by simp) fun i hi=> ?_
  obtain⟨hi,he⟩:=hi
  refine z1g fun Q1 hQ1=> ?_
  by_cases c:i<r.length
  ·have c':i<r'.length:=by omega
   have xa:=z9qd c
   have xb:=z9qd c'
   obtain⟨ga,gl⟩:=hr _ (List.getElem_mem c)
   obtain⟨gb,gm⟩:=hr' _ (List.getElem_mem c')
   have p2:=z1Ac (nl:=none) (nl':=none) ga gb (by omega)
   have q2:=z6jc (nl:=none) (nl':=none) ga gb
   have l1:1≤r.length-i:=by omega
   have l2:1≤r'.length-i:=by omega
   by_cases eq:r[i]=r'[i]
   ·have hT:=z9Vb c c' he eq
    rw[decide_eq_true eq] at q2
    generalize r[i]=x at*
    generalize r'[i]=y at*
    simp(maxSteps:=1000000) (disch:=first|omega|simp;done|simp;omega) [z7G,z8pa,z7pa,z7Da,z9Ka,kT,kF,dT,dF,c,c',lr,lr',xa,xb,h60,p2,q2,l1,l2,hQ1]
    exact⟨i+1,by omega,⟨by omega,hT⟩,by omega⟩
   ·have hz:Z=false:=by rw[←hZ,decide_eq_false (fun e':r=r'=>eq (by subst e';rfl))];simp
    rw[decide_eq_false eq] at q2
    generalize r[i]=x at*
    generalize r'[i]=y at*
    simp(maxSteps:=1000000) (disch:=first|omega|simp;done|simp;omega) [z7G,z8pa,z7pa,z7Da,z9Ka,kT,kF,dT,dF,c,c',lr,lr',xa,xb,h60,p2,q2,l1,l2,hQ1,hQ0,←hQf,hz,z0ra]
    skip
  ·obtain rfl:i=r.length:=by omega
   have hz:Z=true:=by rw[←hZ,decide_eq_true (z4Ub c2 he)];simp[c3]
   simp(maxSteps:=1000000) (disch:=first|omega|simp;done|simp;omega) [z7G,z8pa,z7pa,z7Da,z5Za,kT,kF,dT,dF,hQ1,hQ0,←hQf,hz,z0ra]
   skip
end Go.Abs
end

section
namespace Go.Abs
set_option maxRecDepth 100000
set_option maxHeartbeats 8000000
theorem z3Id (E:Env) (h331:E.G 331=z6cc) (h375:E.G 375=z7mb):∀ds,z2Nc.pre ds→ds.length=z6sa.n∧awp E z6sa.body (z6va z6sa.res (z2Nc.post ds)) (z4H z6sa.wr ds):=by
 rintro _ ⟨l,x,h,h1,h2,hx,rfl⟩
 rw[z1fc h hx]
 have hs:=h.s
 have hlen:=z4ta h.e
 have hxl:=z5vb hx
 have htk:List.take 30 (z7va none none none x)=z7va none none none x:=List.take_of_length_le (by omega)
 have hx0:=z8jd none none none x
 have p1:z6cc.pre [.agg (z7va none none none x)]=True:=z2uc hx
 have p2:z6cc.post [.agg (z7va none none none x)]=bo (okE x):=z0Hb hx
 have p3:z7mb.pre [z4Ca none none l]=True:=z3fb h
 have p4:z7mb.post [z4Ca none none l]=i64 (l.len:Int):=z1Oa h
 have hll:l.len=l.size+l.ents.length:=rfl
 have sp:=z2Ic (a:=[i64 0,i64 0,i64 0,i64 0,i64 0,i64 0,i64 0,i64 0,i64 0,i64 0,st [],.sl .plain none 0 [],u8 0,u8 0,u8 0,u8 0,u8 0,u8 0,u8 0,u8 0,u8 0,u8 0,u8 0,u8 0,u8 0,u8 0,u8 0,u8 0,.sl .plain none 0 [],.sl .plain none 0 []]) rfl hxl
 have em:=z4dc none none none x
 have eml:=z3eb l.ents
 have ex:z6ra (l.ents++[x])=z6ra l.ents++z7va none none none x:=by rw[z04b,z8Wb]
 have dM:¬((65536:Int)≤(l.len:Int)):=by omega
 have e0:z6ra []=[]:=rfl
 simp only[z4Ca,z5Aa,z5sa] at p3 p4⊢
 cases hok:okE x with
 |false=>
  rw[hok] at p2
  have hr:z9Kb l x=(⟨0,[],[]⟩,1):=by rw[z9Kb,if_pos hok]
  rw[hr]
  simp(maxSteps:=1000000) (disch:=first|omega|simp;done|simp;omega) [z7G,z8pa,z7pa,z6sa,h331,p1,p2,hxl,htk,kT,kF,z4wa,z2wa,e0]
  skip
 |true=>
  rw[hok] at p2
  by_cases h0:l.ents.length=0
  ·have d0:¬(0:Int)<(l.ents.length:Int):=by omega
   have hr:z9Kb l x=(⟨l.size,l.roots,l.ents++[x]⟩,0):=by rw[z9Kb,if_neg (by rw[hok];decide),if_neg (by omega)]
   rw[hr]
   simp(maxSteps:=1000000) (disch:=first|omega|simp;done|simp;omega) [z7G,z8pa,z7pa,z6sa,z0Ba,z1Ba,z1Ha,h331,h375,p1,p2,p3,p4,hxl,htk,kT,kF,dT,dF,dM,d0,hlen,sp,ex,z4wa,z2wa]
   exact⟨⟨by omega,by omega,eml⟩,by omega,by omega,em⟩
  ·have d0:(0:Int)<(l.ents.length:Int):=by omega
   have hat:=z1xc h.e (show l.ents.length-1<l.ents.length by omega)
   have hla:l.ents[l.ents.length-1]'(by omega)=l.ents.getLastD x:=by
    rw[List.getLastD_eq_getLast?,List.getLast?_eq_getElem?,List.getElem?_eq_getElem (by omega)];rfl
   rw[hla] at hat
   have i1:((l.ents.length:Int)-1).toNat=l.ents.length-1:=by omega
   generalize hgl:l.ents.getLastD x=y at hat
   by_cases ht:x.time<y.time
   ·have hr:z9Kb l x=(⟨0,[],[]⟩,20):=by rw[z9Kb,if_neg (by rw[hok];decide),if_pos ⟨by omega,hgl▸ht⟩]
    rw[hr]
    simp(maxSteps:=1000000) (disch:=first|omega|simp;done|simp;omega) [z7G,z8pa,z7pa,z6sa,z0Ba,z1Ba,h331,h375,p1,p2,p3,p4,hxl,htk,kT,kF,dT,dF,dM,d0,ht,hat,hx0,i1,hlen,z4wa,z2wa,e0]
    exact⟨⟨by omega,by omega⟩,by omega⟩
   ·have hr:z9Kb l x=(⟨l.size,l.roots,l.ents++[x]⟩,0):=by rw[z9Kb,if_neg (by rw[hok];decide),if_neg (fun h=>ht (hgl▸h.2))]
    rw[hr]
    simp(maxSteps:=1000000) (disch:=first|omega|simp;done|simp;omega) [z7G,z8pa,z7pa,z6sa,z0Ba,z1Ba,z1Ha,h331,h375,p1,p2,p3,p4,hxl,htk,kT,kF,dT,dF,dM,d0,ht,hat,hx0,i1,hlen,sp,ex,z4wa,z2wa]
    exact⟨⟨by omega,by omega⟩,by omega,⟨by omega,by omega,eml⟩,by omega,by omega,em⟩
theorem z8Hd (E:Env) (h379:E.G 379=z34b):∀ds,z4Nc.pre ds→ds.length=z9xa.n∧awp E z9xa.body (z6va z9xa.res (z4Nc.post ds)) (z4H z9xa.wr ds):=by
 rintro _ ⟨l,n,h,hn,rfl⟩
 rw[z79b n h]
 have hs:=h.s
 have hne:=h.n
 have hll:l.len=l.size+l.ents.length:=rfl
 have q1:=z2sb h hn
 have q2:=z9Xa n h
 by_cases c:n<l.size∨(l.len:Int)<n
 ·rw[z8rb,if_pos c] at q2
  rw[z7qc,if_pos c]
  simp only[z4Ca,z5Aa,z5sa,pkA] at q1 q2⊢
  have e0:z6ra []=[]:=rfl
  simp(maxSteps:=1000000) (disch:=first|omega|simp;done|simp;omega) [z7G,z8pa,z7pa,z9xa,h379,q1,q2,kT,kF,z4wa,z2wa,e0]
  skip
 ·have c1:(l.size:Int)≤n:=by omega
  have c2:n≤(l.len:Int):=by omega
  rw[z5Rb c1 c2] at q2
  rw[z7qc,if_neg c,←z4w]
  have i1:(n-(l.size:Int)).toNat=n.toNat-l.size:=by omega
  have hlen:=z4ta h.e
  have hdr:=z0cb h.e (n.toNat-l.size)
  have hld:(l.ents.drop (n.toNat-l.size)).length=l.ents.length-(n.toNat-l.size):=List.length_drop
  have hn0:((n.toNat:Nat):Int)=n:=by omega
  have hlD:=z4ta (l:=l.ents.drop (n.toNat-l.size)) (fun x hx=>h.e x (List.mem_of_mem_drop hx))
  rw[hld] at hlD
  have htk:List.take ((l.ents.length-(n.toNat-l.size))*30) (z6ra (l.ents.drop (n.toNat-l.size)))=z6ra (l.ents.drop (n.toNat-l.size)):=List.take_of_length_le (by rw[hlD];exact Nat.le_refl _)
  have eml:=z3eb (l.ents.drop (n.toNat-l.size))
  simp only[z4Ca,z5Aa,z5sa,pkA,hld,hn0] at q1 q2⊢
  generalize z4w l n=A at*
  generalize z6ra (l.ents.drop (n.toNat-l.size))=B at*
  simp(maxSteps:=1000000) (disch:=first|omega|simp;done|simp;omega) [z7G,z8pa,z7pa,z9xa,z3Za,h379,q1,q2,kT,kF,z4wa,z2wa,i1,hlen,hdr,htk,hlD]
  exact⟨⟨by omega,by omega⟩,by omega,by omega,eml⟩
theorem z8Ad (E:Env) (h375:E.G 375=z7mb) (h379:E.G 379=z34b) (h380:E.G 380=z5Gc):∀ds,z5Nc.pre ds→ds.length=z9sa.n∧awp E z9sa.body (z6va z9sa.res (z5Nc.post ds)) (z4H z9sa.wr ds):=by
 rintro _ ⟨l,a,b,h,ha,hb,rfl⟩
 rw[z5cc a b h]
 have hs:=h.s
 have hn:=h.n
 have hll:l.len=l.size+l.ents.length:=rfl
 have p3:z7mb.pre [z4Ca none none l]=True:=z3fb h
 have p4:z7mb.post [z4Ca none none l]=i64 (l.len:Int):=z1Oa h
 have q1:=z2sb h ha
 have q2:=z9Xa a h
 have e1:=z0xc h hb
 have e2:=z5Gb b h
 have e0:z6ra []=[]:=rfl
 by_cases c0:a<l.size∨b≤a∨(l.len:Int)<b
 ·have hr:z1Tb l a b=(⟨0,[],[]⟩,11):=by rw[z1Tb,if_pos (by omega)]
  rw[hr]
  simp only[z4Ca,z5Aa,z5sa,pkA] at p3 p4 q1 q2⊢
  by_cases c1:a<(l.size:Int)
  ·simp(maxSteps:=1000000) (disch:=first|omega|simp;done|simp;omega) [z7G,z8pa,z7pa,z9sa,kT,kF,dT,dF,c1,z4wa,z2wa,z54b,z5sa,e0,z36b,z7Eb]
   skip
  ·by_cases c2:b≤a
   ·simp(maxSteps:=1000000) (disch:=first|omega|simp;done|simp;omega) [z7G,z8pa,z7pa,z9sa,kT,kF,dT,dF,c1,c2,z4wa,z2wa,z54b,z5sa,e0,z36b,z7Eb]
    skip
   ·have c3:(l.len:Int)<b:=by omega
    simp(maxSteps:=1000000) (disch:=first|omega|simp;done|simp;omega) [z7G,z8pa,z7pa,z9sa,kT,kF,dT,dF,c1,c2,c3,h375,p3,p4,z4wa,z2wa,z54b,z5sa,e0,z36b,z7Eb]
    skip
 ·have c1:¬a<(l.size:Int):=by omega
  have c2:¬b≤a:=by omega
  have c3:¬(l.len:Int)<b:=by omega
  have hr:z1Tb l a b=(⟨a,z9qc l a b,[z4w l a,(z2S l b).1]⟩,0):=by rw[z1Tb,if_neg (by omega)]
  have hE2:(z2S l b).2=0:=by rw[z3s (by omega) (by omega) (by omega)]
  rw[z5Rb (by omega) (by omega)] at q2
  have i1:(a-(l.size:Int)).toNat=a.toNat-l.size:=by omega
  have i2:(b-(l.size:Int)).toNat=b.toNat-l.size:=by omega
  have hlen:=z4ta h.e
  have hsc:z2vb (z9qc l a b):=fun x hx=>h.e x (List.mem_of_mem_drop (List.mem_of_mem_take hx))
  have hlc:(z9qc l a b).length=b.toNat-a.toNat:=by rw[z9qc,List.length_take,List.length_drop];omega
  have h2:=z0cb h.e (a.toNat-l.size)
  have h3:=z9zb (l:=l.ents.drop (a.toNat-l.size)) (fun x hx=>h.e x (List.mem_of_mem_drop hx)) (b.toNat-a.toNat)
  rw[show(l.ents.drop (a.toNat-l.size)).take (b.toNat-a.toNat)=z9qc l a b from rfl] at h3
  have i3:b.toNat-l.size-(a.toNat-l.size)=b.toNat-a.toNat:=by omega
  have hlC:=z4ta hsc
  rw[hlc] at hlC
  have eml:=z3eb (z9qc l a b)
  rw[hr]
  simp only[z4Ca,z5Aa,z5sa,pkA,hE2] at p3 p4 q1 q2 e1 e2⊢
  generalize z4w l a=A at*
  generalize(z2S l b).1=P at*
  simp(maxSteps:=1000000) (disch:=first|omega|simp;done|simp;omega) [z7G,z8pa,z7pa,z9sa,z3Ua,kT,kF,dT,dF,c1,c2,c3,h375,h379,p3,p4,q1,q2,h380,e1,e2,i1,i2,i3,hlen,h2,h3,hlC,z4wa,z2wa,z54b,z5sa,z5Aa,z36b,z7Eb,hlc]
  exact⟨⟨⟨by omega,by omega⟩,by omega,by omega⟩,by omega,by omega,eml⟩
def z7Od (l m:z0n):Bool:=decide (l.roots=m.roots)&&decide (l.size=m.size)&&z8ub l.ents m.ents
theorem z82c (l:z0n):z7Od l l=true:=by simp[z7Od,(z2zb l.ents l.ents).2 rfl]
def z93b:z1f:=⟨fun ds=>∃(l m:z0n),l.ok∧m.ok∧ds=[z4Ca none none l,z4Ca none none m],fun ds=>bo (z7Od (z5Cb (nth ds 0)) (z5Cb (nth ds 1)))⟩
theorem z6lc {l m:z0n} (h:l.ok) (h':m.ok):z93b.pre [z4Ca none none l,z4Ca none none m]=True:=eq_true ⟨l,m,h,h',rfl⟩
theorem z1Nb {l m:z0n} (h:l.ok) (h':m.ok):z93b.post [z4Ca none none l,z4Ca none none m]=bo (z7Od l m):=by
 show bo (z7Od (z5Cb (z4Ca none none l)) (z5Cb (z4Ca none none m)))=_
 rw[z7Gb h,z7Gb h']
theorem z19c (E:Env) (h209:E.G 209=z56c) (h376:E.G 376=z4rd):∀ds,z93b.pre ds→ds.length=z5ua.n∧awp E z5ua.body (z6va z5ua.res (z93b.post ds)) (z4H z5ua.wr ds):=by
 rintro _ ⟨l,m,h,h',rfl⟩
 rw[z1Nb h h']
 have hs:=h.s
 have hs':=h'.s
 have o1:=h.o
 have o2:=h'.o
 have b1:=z9tb l.size
 have b2:=z9tb m.size
 have s1:=z7Gc (n:=(l.size:Int)) (m:=(m.size:Int)) (nl:=none) (nl':=none) h.r h'.r (by omega) (by omega) rfl rfl rfl rfl
 have s2:=z7Zb (n:=(l.size:Int)) (m:=(m.size:Int)) (M:= .plain) (M':= .plain) (nl:=none) (nl':=none) h.r h'.r rfl rfl rfl rfl
 have t1:=z7Vc (nl:=none) (nl':=none) h.e h'.e h.n h'.n
 have t2:=z5ec (nl:=none) (nl':=none) h.e h'.e
 have ei:decide ((l.size:Int)=(m.size:Int))=decide (l.size=m.size):=decide_eq_decide.2 (by omega)
 rw[ei] at s2
 simp only[z4Ca,z5Aa,z5sa] at t1 t2⊢
 unfold z7Od
 cases c1:(decide (l.roots=m.roots)&&decide (l.size=m.size)) with
 |false=>
  rw[c1] at s2
  simp(maxSteps:=1000000) (disch:=first|omega|simp;done|simp;omega) [z7G,z8pa,z7pa,z5ua,h209,s1,s2,kT,kF]
  skip
 |true=>
  rw[c1] at s2
  simp(maxSteps:=1000000) (disch:=first|omega|simp;done|simp;omega) [z7G,z8pa,z7pa,z5ua,h209,s1,s2,h376,t1,t2,kT,kF]
  skip
end Go.Abs
end

section
namespace Go.Abs
structure z3w (l s:z0n) (n:Int):Prop where
 n1:(l.size:Int)≤n
 n2:n≤(l.len:Int)
 hs:(s.size:Int)=n
 hr:s.roots=z4w l n
 he:s.ents=l.ents.drop (n.toNat-l.size)
def z1ke (l:z0n) (n:Int):z0n:=⟨n.toNat,z4w l n,l.ents.drop (n.toNat-l.size)⟩
theorem z2Hd {l:z0n} {n:Int} (h1:(l.size:Int)≤n) (h2:n≤(l.len:Int)):z3w l (z1ke l n) n:=⟨h1,h2,by simp only[z1ke];omega,rfl,rfl⟩
theorem z8ud {l:z0n} {n:Int} (h1:(l.size:Int)≤n) (h2:n≤(l.len:Int)):z7qc l n=(z1ke l n,0):=by
 rw[z7qc,if_neg (by omega)];rfl
theorem z3w.len {l s:z0n} {n:Int} (h:z3w l s n):s.len=l.len:=by
 have h1:=h.n1
 have h2:=h.n2
 have h3:=h.hs
 have hll:l.len=l.size+l.ents.length:=rfl
 show s.size+s.ents.length=l.len
 rw[h.he,List.length_drop];omega
theorem z3w.ok {l s:z0n} {n:Int} (h:z3w l s n) (hl:l.ok):s.ok:=by
 have h1:=h.n1
 have h2:=h.n2
 have h3:=h.hs
 have hle:=h.len
 have hn:=hl.n
 have hs:=hl.s
 have hll:l.len=l.size+l.ents.length:=rfl
 have hls:s.len=s.size+s.ents.length:=rfl
 refine⟨by rw[h.hr];exact z1Z hl n,by rw[h.hr,z4M hl h1 h2];congr 1;omega,fun x hx=>hl.e x (by rw[h.he] at hx;exact List.mem_of_mem_drop hx),?_,by omega⟩
 rw[h.he,List.length_drop];omega
theorem z3w.frt {l s:z0n} {n:Int} (h:z3w l s n) {m:Int} (h3:n≤m) (h4:m≤(l.len:Int)):z4w s m=z4w l m:=by
 have h1:=h.n1
 have h2:=h.n2
 have hs:=h.hs
 have hll:l.len=l.size+l.ents.length:=rfl
 rw[z4w,h.hr,h.he]
 have e1:s.size=l.size+(z3h (l.ents.take (n.toNat-l.size))).length:=by rw[z9m,List.length_take];omega
 rw[e1]
 have e2:=z0q (z3h (l.ents.take (n.toNat-l.size))) (z3h ((l.ents.drop (n.toNat-l.size)).take (m.toNat-n.toNat))) l.size l.roots
 rw[←e1,show m.toNat-s.size=m.toNat-n.toNat by omega]
 rw[←e1] at e2
 rw[show z4w l n=z6r l.size l.roots (z3h (l.ents.take (n.toNat-l.size))) from rfl,←e2,z4w,z3h,z3h,z3h,←List.map_append,←List.take_add,show n.toNat-l.size+(m.toNat-n.toNat)=m.toNat-l.size by omega]
theorem z3w.bck {l s:z0n} {n:Int} (h:z3w l s n) {m:Int} (h3:n≤m):z32 s m=z32 l m:=by
 have h1:=h.n1
 have hs:=h.hs
 rw[z32,z32,h.he,List.drop_drop]
 congr 2;omega
theorem z3w.ext {l s:z0n} {n:Int} (h:z3w l s n) {m:Int} (h3:n≤m):z2S s m=z2S l m:=by
 have h1:=h.n1
 have hs:=h.hs
 have hl:=h.len
 by_cases c:m<1∨(l.len:Int)<m
 ·rw[z2S,z2S,if_pos (by omega),if_pos (by omega)]
 ·rw[z3s (by omega) (by omega) (by omega),z3s (by omega) (by omega) (by omega),hl,h.frt h3 (by omega),h.bck h3]
end Go.Abs
end
