/- Lemmas: an abstract interpreter, and what the functions compute. -/
import Derived.Test.YtepddcbbkhdfiaaGreatDoorH
import Derived.Test.YtepddcbbkhdfiaaGreatDoorG
import Derived.Test.YtepddcbbkhdfiaaGreatDoorK
set_option linter.unusedSimpArgs false
set_option linter.unusedVariables false
set_option linter.unusedSectionVars false
section
namespace Go.Abs
set_option maxRecDepth 100000
def z5ub:z1c:=
 Yr [2,3] [Ym 17 0,Yn 18 17,Yk 19 167 18,Ym 3 19] (YR [2] [.norm [2]] [Ym 20 0,Ym 21 3,YX 22 16 20 21,Yk 23 168 22,Ym 24 0,Ym 25 3,YF 26 16 24 25,Yk 27 168 26,YK 28 169 23 27,Yk 29 165 28,Ys 16 2 2 29] .ret)
def z0ta:z1ka:=
 {n:=1,wr:=[],res:=[.cell 2 (some 16) 2],body:=YR [2] [.norm [2]] [Yz 2 2 16] (Yq (Yr [2,5] [Ym 4 0,Yn 5 4] (.block 0 (Yr [2,5,6] [YB 7 .eql 5 0,Ym 6 7] (Yd 6 (YR [2] [.norm [2]] [Yo 8 (.call 164 [.c (u8 1),.c (.lit (.slice none 0 0))] []),Yk 9 165 8,Ys 16 2 2 9] .ret) (Yr [2,10] [YB 11 .eql 5 1,Ym 10 11] (Yd 10 (YR [2] [.norm [2]] [Ym 12 0,YI 13 16 12 0,YJ 14 16 13,Yk 15 166 14,Yk 16 165 15,Ys 16 2 2 16] .ret) (Yy [2]))))))) z5ub)}
def z7Fa:z1ka:=
 {n:=1,wr:=[],res:=[.t 2],body:=Yr [] [Yc 2 0] (Yr [2] [Ym 3 0,YB 4 .sub 3 1,YE 5 .u64 4,Yk 6 170 5,YB 7 .sub 6 1,Yo 8 (.bin .shl (.c (i64 1)) (.s 7)),Ym 2 8] .ret)}
def z5Ka:z1ka:=
 {n:=1,wr:=[],res:=[.cell 2 (some 16) 2],body:=YR [2] [.norm [2]] [Yz 2 2 16] (YR [2,3] [.norm [2,3]] [Ym 4 0,Yk 5 3 4,Yz 3 3 32,Ys 32 3 3 5] (YR [2] [.norm [2,3]] [Yo 6 (.slArr 32 1 (.s 3) none (some (.c (i64 16))) none),Yo 7 (.s2ap 16 (.s 6)),YL 8 16 3 7,Ys 16 2 2 8] .ret))}
def z2pb:z1c:=
 Yq (.block 1 (YR [5,7,10,11,12] [.norm [7]] [Yi 14 16 10 12,YJ 15 16 14,Yz 7 7 16,Ys 16 7 7 15] (Yu [5,10,11,12] [YM 16 5,Yo 17 (.slArr 16 1 (.s 7) none none none),Yo 18 (.toStr (some 7) (.s 17)),Yk 19 7 18,Yo 20 (.append 1 1 false (some false) none 16 (.s 19)),YM 5 20]))) (.region [5,10,11,12] [.drop [7]] [YB 21 .add 12 1,Ym 12 21])
def z62a:z1c:=
 Yr [5,10,11,12,13] [Yb 13 .lss 12 11] (Yq (Yd 13 (Yy [5,10,11,12]) (YY [5])) z2pb)
def z8mb:z1c:=
 Yr [4] [YM 22 5,YM 4 22] .ret
def z9Ea:z1ka:=
 {n:=2,wr:=[],res:=[.t 4],body:=Yr [] [Yv 4 1] (Yr [5] [Ym 8 0,Yo 9 (.buildSl 1 1 [u8 0] [(0,1,.s 8)]),YM 5 9] (Yq (Yr [5,10,11,12] [Ym 10 1,Yn 11 10,Yc 12 0] (.block 0 (.loop z62a))) z8mb))}
def z0Ja:z1ka:=
 {n:=1,wr:=[],res:=[.t 2],body:=YR [1] [.norm [1]] [Yx 1 1 16 0,Yv 2 1] (YR [2] [.norm [1]] [YL 3 16 1 1,YQ 4 3,Yo 5 (.call 164 [.c (u8 1),.s 4] []),YM 2 5] .ret)}
def z1Ia:z1ka:=
 {n:=2,wr:=[],res:=[.t 4],body:=YR [2,3] [.norm [2,3]] [Yx 2 2 16 0,Yx 3 3 16 1,Yv 4 1] (YR [4] [.norm [2,3]] [YL 5 16 2 2,YL 6 16 3 3,Yo 7 (.buildSl 16 2 (bys (z5j 32)) [(0,16,.s 5),(16,16,.s 6)]),Yo 8 (.call 164 [.c (u8 2),.s 7] []),YM 4 8] .ret)}
def z3nb:z1c:=
 Yq (.block 1 (.region [0,2,3] [.norm [0]] [Ym 14 0,Ym 15 2,Ym 16 0,Ym 17 3,Ym 18 0,Ym 19 3,Yi 20 1 18 19,Yl 21 0 20,Ym 22 0,Ym 23 2,Yi 24 1 22 23,Yl 25 0 24,Yi 26 1 14 15,YS 0 26 21,Yi 27 1 16 17,YS 0 27 25])) (Yu [0,2,3] [Ym 10 2,YB 11 .add 10 1,Ym 12 3,YB 13 .sub 12 1,Ym 2 11,Ym 3 13])
def z5rb:z1c:=
 Yq (Yr [0,2,3,9] [Ym 7 2,Ym 8 3,Yb 9 .lss 7 8] (Yd 9 (Yy [0,2,3]) (YY [0]))) z3nb
def z4Ea:z1ka:=
 {n:=1,wr:=[],res:=[],body:=Yr [0,2,3] [Ym 4 0,Yn 5 4,YB 6 .sub 5 1,Yc 2 0,Ym 3 6] (.block 0 (.loop z5rb))}
def z07a:z1c:=
 Yq (.block 1 (Yu [2,3] [Ym 14 0,Ym 15 2,Ym 16 0,Ym 17 3,Ym 18 0,Ym 19 3,Yi 20 1 18 19,Yj 21 20,Ym 22 0,Ym 23 2,Yi 24 1 22 23,Yj 25 24,Yi 26 1 14 15,YO .unsup,Yi 27 1 16 17,YO .unsup])) (Yu [2,3] [Ym 10 2,YB 11 .add 10 1,Ym 12 3,YB 13 .sub 12 1,Ym 2 11,Ym 3 13])
def z76a:z1c:=
 Yq (Yr [2,3,9] [Ym 7 2,Ym 8 3,Yb 9 .lss 7 8] (Yd 9 (Yy [2,3]) (YY []))) z07a
def z4eb:z1ka:=
 {n:=1,wr:=[],res:=[],body:=Yr [2,3] [Ym 4 0,Yn 5 4,YB 6 .sub 5 1,Yc 2 0,Ym 3 6] (.block 0 (.loop z76a))}
def z3Aa:z1ka:=
 {n:=1,wr:=[],res:=[.t 2],body:=YR [1] [.norm [1]] [Yx 1 1 2 0,Yw 2 false] (YR [2] [.norm [1]] [Yf 3 0 1,Yl 4 1 3,YB 5 .geq 4 0,Ym 6 5,YG 6 (Yf 7 0 1),YG 6 (Yl 8 1 7),YG 6 (YB 9 .leq 8 4294967296),Yp 10 6 9,Ym 11 10,YG 11 (Yf 12 1 1),YG 11 (Yl 13 1 12),YG 11 (Yn 14 13),YG 11 (Yf 15 0 1),YG 11 (Yl 16 1 15),YG 11 (YE 17 .u64 16),YG 11 (Yk 18 188 17),YG 11 (Yb 19 .eql 14 18),Yp 20 11 19,Ym 2 20] .ret)}
def z7Xa:z1c:=
 Yr [2] [Ym 6 0,Yk 7 190 6,Ym 2 7] .ret
def z0wa:z1ka:=
 {n:=1,wr:=[],res:=[.t 2],body:=Yr [] [Yc 2 0] (Yq (.cond (.c (bo false)) (Yr [2] [Ym 3 0,YE 4 .u32 3,Yk 5 189 4,Ym 2 5] .ret) (Yy [])) z7Xa)}
def z6ta:z1ka:=
 {n:=1,wr:=[],res:=[.t 2],body:=YR [1] [.norm [1]] [Yo 1 (.box 1 none true (.s 0)),Yo 2 (.mv false (.c (.lit .nilFunc)))] (Yr [2] [Yo 3 (.mkfn 184 [] [.s 1]),Ym 2 3] .ret)}
def z2Kb:z1c:=
 Yr [2] [Ym 6 0,Yk 7 192 6,Ym 2 7] .ret
def z22a:z1ka:=
 {n:=1,wr:=[],res:=[.t 2],body:=Yr [] [Yc 2 0] (Yq (.cond (.c (bo false)) (Yr [2] [Ym 3 0,YE 4 .u32 3,Yk 5 191 4,Ym 2 5] .ret) (Yy [])) z2Kb)}
def z0fb:z1c:=
 Yr [2] [Ym 6 0,Yk 7 194 6,Ym 2 7] .ret
def z7Ba:z1ka:=
 {n:=1,wr:=[],res:=[.t 2],body:=Yr [] [Yc 2 0] (Yq (.cond (.c (bo false)) (Yr [2] [Ym 3 0,YE 4 .u32 3,Yk 5 193 4,Ym 2 5] .ret) (Yy [])) z0fb)}
def z6lb:z1c:=
 Yr [2] [Ym 5 0,Ym 6 0,YU 7 .neg 6,Yb 8 .and 5 7,YW 9 .mul 8 (u32 125613361),YW 10 .shr 9 (u64 27),Yo 11 (.idxArr 32 1 (.g 4) (.s 10)),Yj 12 11,YE 13 .i64 12,Ym 2 13] .ret
def z5wa:z1ka:=
 {n:=1,wr:=[],res:=[.t 2],body:=Yr [] [Yc 2 0] (Yq (Yr [4] [Ym 3 0,YW 4 .eql 3 (u32 0)] (Yd 4 (Yr [2] [Yc 2 32] .ret) (Yy []))) z6lb)}
def z2Fa:z1c:=
 Yr [2] [Ym 5 0,Ym 6 0,YU 7 .neg 6,Yb 8 .and 5 7,YW 9 .mul 8 (u64 285870213051353865),YW 10 .shr 9 (u64 58),Yo 11 (.idxArr 64 1 (.g 3) (.s 10)),Yj 12 11,YE 13 .i64 12,Ym 2 13] .ret
def z4ua:z1ka:=
 {n:=1,wr:=[],res:=[.t 2],body:=Yr [] [Yc 2 0] (Yq (Yr [4] [Ym 3 0,YW 4 .eql 3 (u64 0)] (Yd 4 (Yr [2] [Yc 2 64] .ret) (Yy []))) z2Fa)}
def z60a:z1c:=
 Yu [3] [Yj 4 1,Yn 5 4,YB 6 .sub 5 1,Ym 3 6]
def z7Ka:z1c:=
 Yr [3,8] [Ym 7 3,YB 8 .geq 7 0] (Yd 8 (Yy [3]) (YY []))
def z30a:z1c:=
 Yd 18 .ret (Yy [3])
def z3Ya:z66a:=
 .plain z30a
def z0Za:z66a:=
 .seq (.block 1 (.seq (.yield [3,18] [] [Ym 11 0,Ym 12 3,Yj 13 1,Ym 14 3,Yi 15 16 13 14,YJ 16 16 15] (some 17) 11 [.s 12,.s 16] [YU 18 .not 17]) z3Ya)) (.plain (.region [3] [] [Ym 9 3,YB 10 .sub 9 1,Ym 3 10]))
def z8Ka:z66a:=
 .seq (.plain z7Ka) z0Za
def z4Za:z66a:=
 .block 0 (.loop z8Ka)
def z0ya:z1de:=
 {nx:=0,ny:=1,body:=.seq (.plain z60a) z4Za}
def z8Zb:z1c:=
 Yr [2] [Ym 13 2,Ym 14 0,YE 15 .u8 14,Yo 16 (.idxStr (.c (st [0,1,2,2,3,3,3,3,4,4,4,4,4,4,4,4,5,5,5,5,5,5,5,5,5,5,5,5,5,5,5,5,6,6,6,6,6,6,6,6,6,6,6,6,6,6,6,6,6,6,6,6,6,6,6,6,6,6,6,6,6,6,6,6,7,7,7,7,7,7,7,7,7,7,7,7,7,7,7,7,7,7,7,7,7,7,7,7,7,7,7,7,7,7,7,7,7,7,7,7,7,7,7,7,7,7,7,7,7,7,7,7,7,7,7,7,7,7,7,7,7,7,7,7,7,7,7,7,8,8,8,8,8,8,8,8,8,8,8,8,8,8,8,8,8,8,8,8,8,8,8,8,8,8,8,8,8,8,8,8,8,8,8,8,8,8,8,8,8,8,8,8,8,8,8,8,8,8,8,8,8,8,8,8,8,8,8,8,8,8,8,8,8,8,8,8,8,8,8,8,8,8,8,8,8,8,8,8,8,8,8,8,8,8,8,8,8,8,8,8,8,8,8,8,8,8,8,8,8,8,8,8,8,8,8,8,8,8,8,8,8,8,8,8,8,8,8,8,8,8,8,8,8,8,8,8])) (.s 15)),YE 17 .i64 16,Yb 18 .add 13 17,Ym 2 18] .ret
def z32b:z1c:=
 Yq (Yr [0,2,8] [Ym 7 0,YW 8 .geq 7 (u32 256)] (Yd 8 (Yr [0,2] [Ym 9 0,YW 10 .shr 9 (u64 8),Ym 0 10] (Yu [0,2] [Ym 11 2,YB 12 .add 11 8,Ym 2 12])) (Yy [0,2]))) z8Zb
def z6Ta:z1ka:=
 {n:=1,wr:=[0],res:=[.t 2],body:=Yr [0,2] [Yc 2 0] (Yq (Yr [0,2,4] [Ym 3 0,YW 4 .geq 3 (u32 65536)] (Yd 4 (Yr [0] [Ym 5 0,YW 6 .shr 5 (u64 16),Ym 0 6] (Yu [0,2] [Yc 2 16])) (Yy [0,2]))) z32b)}
def z1eb:z1c:=
 Yr [2] [Ym 19 2,Ym 20 0,YE 21 .u8 20,Yo 22 (.idxStr (.c (st [0,1,2,2,3,3,3,3,4,4,4,4,4,4,4,4,5,5,5,5,5,5,5,5,5,5,5,5,5,5,5,5,6,6,6,6,6,6,6,6,6,6,6,6,6,6,6,6,6,6,6,6,6,6,6,6,6,6,6,6,6,6,6,6,7,7,7,7,7,7,7,7,7,7,7,7,7,7,7,7,7,7,7,7,7,7,7,7,7,7,7,7,7,7,7,7,7,7,7,7,7,7,7,7,7,7,7,7,7,7,7,7,7,7,7,7,7,7,7,7,7,7,7,7,7,7,7,7,8,8,8,8,8,8,8,8,8,8,8,8,8,8,8,8,8,8,8,8,8,8,8,8,8,8,8,8,8,8,8,8,8,8,8,8,8,8,8,8,8,8,8,8,8,8,8,8,8,8,8,8,8,8,8,8,8,8,8,8,8,8,8,8,8,8,8,8,8,8,8,8,8,8,8,8,8,8,8,8,8,8,8,8,8,8,8,8,8,8,8,8,8,8,8,8,8,8,8,8,8,8,8,8,8,8,8,8,8,8,8,8,8,8,8,8,8,8,8,8,8,8,8,8,8,8,8,8])) (.s 21)),YE 23 .i64 22,Yb 24 .add 19 23,Ym 2 24] .ret
def z9Wa:z1c:=
 Yq (Yr [0,2,14] [Ym 13 0,YW 14 .geq 13 (u64 256)] (Yd 14 (Yr [0,2] [Ym 15 0,YW 16 .shr 15 (u64 8),Ym 0 16] (Yu [0,2] [Ym 17 2,YB 18 .add 17 8,Ym 2 18])) (Yy [0,2]))) z1eb
def z5Ua:z1c:=
 Yq (Yr [0,2,8] [Ym 7 0,YW 8 .geq 7 (u64 65536)] (Yd 8 (Yr [0,2] [Ym 9 0,YW 10 .shr 9 (u64 16),Ym 0 10] (Yu [0,2] [Ym 11 2,YB 12 .add 11 16,Ym 2 12])) (Yy [0,2]))) z9Wa
def z8Ha:z1ka:=
 {n:=1,wr:=[0],res:=[.t 2],body:=Yr [0,2] [Yc 2 0] (Yq (Yr [0,2,4] [Ym 3 0,YW 4 .geq 3 (u64 4294967296)] (Yd 4 (Yr [0] [Ym 5 0,YW 6 .shr 5 (u64 32),Ym 0 6] (Yu [0,2] [Yc 2 32])) (Yy [0,2]))) z5Ua)}
def z2Ba:z1ka:=
 {n:=1,wr:=[],res:=[.t 2],body:=Yr [] [Yc 2 0] (Yr [2] [Ym 3 0,YW 4 .shr 3 (u64 24),Yo 5 (.idxStr (.c (st [0,1,1,2,1,2,2,3,1,2,2,3,2,3,3,4,1,2,2,3,2,3,3,4,2,3,3,4,3,4,4,5,1,2,2,3,2,3,3,4,2,3,3,4,3,4,4,5,2,3,3,4,3,4,4,5,3,4,4,5,4,5,5,6,1,2,2,3,2,3,3,4,2,3,3,4,3,4,4,5,2,3,3,4,3,4,4,5,3,4,4,5,4,5,5,6,2,3,3,4,3,4,4,5,3,4,4,5,4,5,5,6,3,4,4,5,4,5,5,6,4,5,5,6,5,6,6,7,1,2,2,3,2,3,3,4,2,3,3,4,3,4,4,5,2,3,3,4,3,4,4,5,3,4,4,5,4,5,5,6,2,3,3,4,3,4,4,5,3,4,4,5,4,5,5,6,3,4,4,5,4,5,5,6,4,5,5,6,5,6,6,7,2,3,3,4,3,4,4,5,3,4,4,5,4,5,5,6,3,4,4,5,4,5,5,6,4,5,5,6,5,6,6,7,3,4,4,5,4,5,5,6,4,5,5,6,5,6,6,7,4,5,5,6,5,6,6,7,5,6,6,7,6,7,7,8])) (.s 4)),Ym 6 0,YW 7 .shr 6 (u64 16),YW 8 .and 7 (u32 255),Yo 9 (.idxStr (.c (st [0,1,1,2,1,2,2,3,1,2,2,3,2,3,3,4,1,2,2,3,2,3,3,4,2,3,3,4,3,4,4,5,1,2,2,3,2,3,3,4,2,3,3,4,3,4,4,5,2,3,3,4,3,4,4,5,3,4,4,5,4,5,5,6,1,2,2,3,2,3,3,4,2,3,3,4,3,4,4,5,2,3,3,4,3,4,4,5,3,4,4,5,4,5,5,6,2,3,3,4,3,4,4,5,3,4,4,5,4,5,5,6,3,4,4,5,4,5,5,6,4,5,5,6,5,6,6,7,1,2,2,3,2,3,3,4,2,3,3,4,3,4,4,5,2,3,3,4,3,4,4,5,3,4,4,5,4,5,5,6,2,3,3,4,3,4,4,5,3,4,4,5,4,5,5,6,3,4,4,5,4,5,5,6,4,5,5,6,5,6,6,7,2,3,3,4,3,4,4,5,3,4,4,5,4,5,5,6,3,4,4,5,4,5,5,6,4,5,5,6,5,6,6,7,3,4,4,5,4,5,5,6,4,5,5,6,5,6,6,7,4,5,5,6,5,6,6,7,5,6,6,7,6,7,7,8])) (.s 8)),Yb 10 .add 5 9,Ym 11 0,YW 12 .shr 11 (u64 8),YW 13 .and 12 (u32 255),Yo 14 (.idxStr (.c (st [0,1,1,2,1,2,2,3,1,2,2,3,2,3,3,4,1,2,2,3,2,3,3,4,2,3,3,4,3,4,4,5,1,2,2,3,2,3,3,4,2,3,3,4,3,4,4,5,2,3,3,4,3,4,4,5,3,4,4,5,4,5,5,6,1,2,2,3,2,3,3,4,2,3,3,4,3,4,4,5,2,3,3,4,3,4,4,5,3,4,4,5,4,5,5,6,2,3,3,4,3,4,4,5,3,4,4,5,4,5,5,6,3,4,4,5,4,5,5,6,4,5,5,6,5,6,6,7,1,2,2,3,2,3,3,4,2,3,3,4,3,4,4,5,2,3,3,4,3,4,4,5,3,4,4,5,4,5,5,6,2,3,3,4,3,4,4,5,3,4,4,5,4,5,5,6,3,4,4,5,4,5,5,6,4,5,5,6,5,6,6,7,2,3,3,4,3,4,4,5,3,4,4,5,4,5,5,6,3,4,4,5,4,5,5,6,4,5,5,6,5,6,6,7,3,4,4,5,4,5,5,6,4,5,5,6,5,6,6,7,4,5,5,6,5,6,6,7,5,6,6,7,6,7,7,8])) (.s 13)),Yb 15 .add 10 14,Ym 16 0,YW 17 .and 16 (u32 255),Yo 18 (.idxStr (.c (st [0,1,1,2,1,2,2,3,1,2,2,3,2,3,3,4,1,2,2,3,2,3,3,4,2,3,3,4,3,4,4,5,1,2,2,3,2,3,3,4,2,3,3,4,3,4,4,5,2,3,3,4,3,4,4,5,3,4,4,5,4,5,5,6,1,2,2,3,2,3,3,4,2,3,3,4,3,4,4,5,2,3,3,4,3,4,4,5,3,4,4,5,4,5,5,6,2,3,3,4,3,4,4,5,3,4,4,5,4,5,5,6,3,4,4,5,4,5,5,6,4,5,5,6,5,6,6,7,1,2,2,3,2,3,3,4,2,3,3,4,3,4,4,5,2,3,3,4,3,4,4,5,3,4,4,5,4,5,5,6,2,3,3,4,3,4,4,5,3,4,4,5,4,5,5,6,3,4,4,5,4,5,5,6,4,5,5,6,5,6,6,7,2,3,3,4,3,4,4,5,3,4,4,5,4,5,5,6,3,4,4,5,4,5,5,6,4,5,5,6,5,6,6,7,3,4,4,5,4,5,5,6,4,5,5,6,5,6,6,7,4,5,5,6,5,6,6,7,5,6,6,7,6,7,7,8])) (.s 17)),Yb 19 .add 15 18,YE 20 .i64 19,Ym 2 20] .ret)}
def z5ya:z1ka:=
 {n:=1,wr:=[0],res:=[.t 2],body:=Yr [0] [Yc 2 0] (Yr [0] [Ym 3 0,YW 4 .shr 3 (u64 1),YW 5 .and 4 (u64 6148914691236517205),Ym 6 0,YW 7 .and 6 (u64 6148914691236517205),Yb 8 .add 5 7,Ym 0 8] (Yr [0] [Ym 9 0,YW 10 .shr 9 (u64 2),YW 11 .and 10 (u64 3689348814741910323),Ym 12 0,YW 13 .and 12 (u64 3689348814741910323),Yb 14 .add 11 13,Ym 0 14] (Yr [0] [Ym 15 0,YW 16 .shr 15 (u64 4),Ym 17 0,Yb 18 .add 16 17,YW 19 .and 18 (u64 1085102592571150095),Ym 0 19] (Yr [0] [Ym 20 0,Ym 21 0,YW 22 .shr 21 (u64 8),Yb 23 .add 20 22,Ym 0 23] (Yr [0] [Ym 24 0,Ym 25 0,YW 26 .shr 25 (u64 16),Yb 27 .add 24 26,Ym 0 27] (Yr [0] [Ym 28 0,Ym 29 0,YW 30 .shr 29 (u64 32),Yb 31 .add 28 30,Ym 0 31] (Yr [2] [Ym 32 0,YE 33 .i64 32,YB 34 .and 33 127,Ym 2 34] .ret)))))))}
end Go.Abs
end

section
namespace Go.Abs
def noC:z1f:=⟨fun _=>False,fun _=> .undef⟩
theorem z7ad (E:Env):∀ds,noC.pre ds→ds.length=z6Ta.n∧awp E z6Ta.body (z6va z6Ta.res (noC.post ds)) (z4H z6Ta.wr ds):=by
 intro _ h;exact h.elim
theorem z7Xc (E:Env):∀ds,noC.pre ds→ds.length=z2Ba.n∧awp E z2Ba.body (z6va z2Ba.res (noC.post ds)) (z4H z2Ba.wr ds):=by
 intro _ h;exact h.elim
theorem z3Jd (E:Env):∀ds,noC.pre ds→ds.length=z5wa.n∧awp E z5wa.body (z6va z5wa.res (noC.post ds)) (z4H z5wa.wr ds):=by
 intro _ h;exact h.elim
theorem z06d:∀x:Fin 256,(([0,1,2,2,3,3,3,3]++List.replicate 8 4++List.replicate 16 5++List.replicate 32 6++List.replicate 64 7++List.replicate 128 8:List UInt8).getD x.val 0).toNat=z4gc x.val:=by decide+kernel
theorem z49b {n k:Nat} (h:2^k≤n):z4gc (n/2^k)+k=z4gc n:=by
 have hp:0<2^k:=Nat.two_pow_pos k
 have h1:n/2^k≠0:=by have:=Nat.div_pos h hp;omega
 have h0:n≠0:=by omega
 have a1:=Nat.log2_self_le h1
 have a2:n/2^k<2^(Nat.log2 (n/2^k)+1):=Nat.lt_log2_self
 have b1:2^(Nat.log2 (n/2^k)+k)≤n:=by
  rw[Nat.pow_add]
  exact(Nat.le_div_iff_mul_le hp).1 a1
 have b2:n<2^(Nat.log2 (n/2^k)+k+1):=by
  rw[show Nat.log2 (n/2^k)+k+1=(Nat.log2 (n/2^k)+1)+k by omega,Nat.pow_add]
  exact(Nat.div_lt_iff_lt_mul hp).1 a2
 rw[z9bd b1 b2,z4gc,if_neg h1];omega
theorem z3db (x:UInt64) (k:Nat) (hk:k<64):(z5n x k).toNat=x.toNat/2^k:=by
 simp[z5n,Nat.shiftRight_eq_div_pow]
@[simp] theorem z1N (x y:UInt64):z9c .geq (u64 x) (u64 y)=bo (decide (y≤x)):=by
 show z0a.lit (.bool (decide ((x.toNat:Int)≥y.toNat)))= .lit (.bool _)
 congr 2
 simp[UInt64.le_iff_toNat_le]
theorem z4ge (E:Env) (a b:z1c) (Q:z5c→ASt→Prop) (st:ASt):awp E (.cond (.c (bo false)) a b) Q st=awp E b Q st:=by
 rw[z4h]
 apply propext
 simp[arg,isB,asB,bo,-z3Yd]
set_option maxRecDepth 100000 in
set_option maxHeartbeats 4000000 in
theorem z1pd (E:Env) {y:UInt64} {n m:Nat} {Q0:z5c→ASt→Prop} (hy:y.toNat<256) (hn:n≤1000) (hm:n+z4gc y.toNat=m) (hQ0:Q0=z6va [z7M.t 2] (i64 m)):awp E z1eb Q0 ⟨[],[(0,u64 y),(2,i64 n)],[]⟩:=by
 have ht:=z06d ⟨y.toNat,hy⟩
 have hmod:((y.toNat:Int)% 256).toNat=y.toNat:=by omega
 have key:∀(L:List UInt8) (k:Nat) (h:k<L.length),k=y.toNat→(L[k]).toNat=(L.getD y.toNat 0).toNat:=by
  intro L k h e;subst e;simp[List.getD,List.getElem?_eq_getElem h]
 simp(maxSteps:=1000000) (disch:=first|omega|simp;done|simp;omega) [z7G,z8pa,z7pa,z1eb,hQ0]
 refine⟨⟨by omega,by omega⟩,?_⟩
 rw[key _ _ _ hmod]
 refine Eq.trans (congrArg (fun z:Nat=>W ((n:Int)+(z:Int))) (a₂:=z4gc y.toNat) ht) ?_
 have hb:z4gc y.toNat≤8:=by
  unfold z4gc
  split
  ·omega
  ·rename_i h0
   have:=(Nat.log2_lt h0).2 (show y.toNat<2^8 from hy)
   omega
 show W ((n:Int)+(z4gc y.toNat:Int))=m
 rw[z7G (by omega) (by omega)]
 omega
set_option maxHeartbeats 4000000 in
theorem z5nd (E:Env) {y:UInt64} {n m:Nat} {Q0:z5c→ASt→Prop} (hy:y.toNat<65536) (hn:n≤100) (hm:n+z4gc y.toNat=m) (hQ0:Q0=z6va [z7M.t 2] (i64 m)):awp E z9Wa Q0 ⟨[],[(0,u64 y),(2,i64 n)],[]⟩:=by
 by_cases h:256≤y.toNat
 ·have h':(256:UInt64)≤y:=by rw[UInt64.le_iff_toNat_le];exact h
  have e1:=z49b (k:=8) h
  have e2:=z3db y 8 (by decide)
  simp(maxSteps:=1000000) (disch:=first|omega|simp;done|simp;omega) [z7G,z8pa,z7pa,z9Wa,h',kT,kF,dT,dF]
  rw[show((n:Int)+8)=((n+8:Nat):Int) by omega]
  exact z1pd E (by rw[e2];omega) (by omega) (by rw[e2];omega) hQ0
 ·have h':¬(256:UInt64)≤y:=by rw[UInt64.le_iff_toNat_le];exact h
  simp(maxSteps:=1000000) (disch:=first|omega|simp;done|simp;omega) [z7G,z8pa,z7pa,z9Wa,h',kT,kF,dT,dF]
  exact z1pd E (by omega) (by omega) hm hQ0
set_option maxHeartbeats 4000000 in
theorem z3pd (E:Env) {y:UInt64} {n m:Nat} {Q0:z5c→ASt→Prop} (hy:y.toNat<4294967296) (hn:n≤50) (hm:n+z4gc y.toNat=m) (hQ0:Q0=z6va [z7M.t 2] (i64 m)):awp E z5Ua Q0 ⟨[],[(0,u64 y),(2,i64 n)],[]⟩:=by
 by_cases h:65536≤y.toNat
 ·have h':(65536:UInt64)≤y:=by rw[UInt64.le_iff_toNat_le];exact h
  have e1:=z49b (k:=16) h
  have e2:=z3db y 16 (by decide)
  simp(maxSteps:=1000000) (disch:=first|omega|simp;done|simp;omega) [z7G,z8pa,z7pa,z5Ua,h',kT,kF,dT,dF]
  rw[show((n:Int)+16)=((n+16:Nat):Int) by omega]
  exact z5nd E (by rw[e2];omega) (by omega) (by rw[e2];omega) hQ0
 ·have h':¬(65536:UInt64)≤y:=by rw[UInt64.le_iff_toNat_le];exact h
  simp(maxSteps:=1000000) (disch:=first|omega|simp;done|simp;omega) [z7G,z8pa,z7pa,z5Ua,h',kT,kF,dT,dF]
  exact z5nd E (by omega) (by omega) hm hQ0
set_option maxHeartbeats 4000000 in
theorem z6bd (E:Env):∀ds,z6Nc.pre ds→ds.length=z8Ha.n∧awp E z8Ha.body (z6va z8Ha.res (z6Nc.post ds)) (z4H z8Ha.wr ds):=by
 rintro _ ⟨x,rfl⟩
 rw[z7nc]
 by_cases h:4294967296≤x.toNat
 ·have h':(4294967296:UInt64)≤x:=by rw[UInt64.le_iff_toNat_le];exact h
  have e1:=z49b (k:=32) h
  have e2:=z3db x 32 (by decide)
  have e3:=x.toNat_lt
  simp(maxSteps:=1000000) (disch:=first|omega|simp;done|simp;omega) [z7G,z8pa,z7pa,z8Ha,h',kT,kF,dT,dF]
  exact z3pd E (n:=32) (by rw[e2];omega) (by omega) (by rw[e2];omega) rfl
 ·have h':¬(4294967296:UInt64)≤x:=by rw[UInt64.le_iff_toNat_le];exact h
  simp(maxSteps:=1000000) (disch:=first|omega|simp;done|simp;omega) [z7G,z8pa,z7pa,z8Ha,h',kT,kF,dT,dF]
  exact z3pd E (n:=0) (by omega) (by omega) (by omega) rfl
theorem z6Xd (E:Env) (h192:E.G 192=z6Nc):∀ds,z6Nc.pre ds→ds.length=z22a.n∧awp E z22a.body (z6va z22a.res (z6Nc.post ds)) (z4H z22a.wr ds):=by
 rintro _ ⟨x,rfl⟩
 rw[z7nc]
 simp(maxSteps:=1000000) (disch:=first|omega|simp;done|simp;omega) [z7G,z8pa,z7pa,z22a,z2Kb,h192,z4ge]
end Go.Abs
end

section
namespace Go.Abs
set_option maxRecDepth 20000
def oN (n:Nat):Nat:=if h:n=0 then 0 else n% 2+oN (n/2)
termination_by n
decreasing_by omega
theorem z7K:oN 0=0:=by rw[oN,dif_pos rfl]
theorem z7u (n:Nat):oN n=n% 2+oN (n/2):=by
 by_cases h:n=0
 ·subst h;rw[show 0/2=0 from rfl,z7K]
 ·rw[oN,dif_neg h]
theorem z53c:∀(k b x:Nat),b<2^k→oN (b+2^k*x)=oN b+oN x
 |0,b,x,h=>by
  have hb:b=0:=by simpa using h
  subst hb;simp[z7K]
 |k+1,b,x,h=>by
  have e:2^(k+1)*x=2*(2^k*x):=by rw[Nat.pow_succ,Nat.mul_comm (2^k) 2,Nat.mul_assoc]
  rw[Nat.pow_succ] at h
  generalize hy:2^k*x=y at e
  rw[z7u (b+_),z7u b,e,show(b+2*y)% 2=b% 2 by omega,show(b+2*y)/2=b/2+y by omega,←hy,z53c k (b/2) x (by omega)]
  omega
theorem z3Sd:∀(k n:Nat),n<2^k→oN n≤k
 |0,n,h=>by
  have hn:n=0:=by simpa using h
  subst hn;rw[z7K];exact Nat.le_refl _
 |k+1,n,h=>by
  rw[Nat.pow_succ] at h
  have:=z3Sd k (n/2) (by omega)
  rw[z7u];omega
/-! ### Byte by byte -/
def vB:List Nat→Nat
 |[]=>0
 |b::l=>b+256*vB l
def oks (l:List Nat):Prop:=∀b∈l,b<256
theorem z5jd:∀{l:List Nat},oks l→vB l<256^l.length
 |[],_=>by decide
 |b::l,h=>by
  have h1:=z5jd (l:=l) (fun x hx=>h x (List.mem_cons_of_mem _ hx))
  have h2:=h b (List.mem_cons_self ..)
  show b+256*vB l<256^(l.length+1)
  rw[Nat.pow_succ];omega
def toB:Nat→Nat→List Nat
 |0,_=>[]
 |k+1,x=>x% 256::toB k (x/256)
theorem z4Tc:∀(k x:Nat),(toB k x).length=k
 |0,_=>rfl
 |k+1,x=>by rw[toB,List.length_cons,z4Tc k]
theorem z8qd:∀(k x:Nat),oks (toB k x)
 |0,_=>fun _ h=>by cases h
 |k+1,x=>fun b h=>by
  rcases List.mem_cons.1 h with h|h
  ·rw[h];exact Nat.mod_lt _ (by decide)
  ·exact z8qd k _ b h
theorem z4Rc:∀(k x:Nat),x<256^k→vB (toB k x)=x
 |0,x,h=>by
  have hx:x=0:=by simpa using h
  subst hx;rfl
 |k+1,x,h=>by
  rw[Nat.pow_succ] at h
  rw[toB,vB,z4Rc k (x/256) (Nat.div_lt_of_lt_mul (by omega))];omega
theorem z2Fc:∀(k x:Nat),x<256^k→oN x=((toB k x).map oN).sum
 |0,x,h=>by
  have hx:x=0:=by simpa using h
  subst hx;exact z7K
 |k+1,x,h=>by
  rw[Nat.pow_succ] at h
  rw[toB,List.map_cons,List.sum_cons,←z2Fc k (x/256) (Nat.div_lt_of_lt_mul (by omega)),←z53c 8 _ _ (Nat.mod_lt _ (by decide))]
  congr 1
  show x=x% 256+256*(x/256)
  omega
def rep (d:Nat):Nat→Nat
 |0=>0
 |k+1=>d+256*rep d k
theorem z2dc (a x d m:Nat) (ha:a<256) (hd:d<256):(a+256*x)&&&(d+256*m)=(a&&&d)+256*(x&&&m):=by
 have h1:(a&&&d)<2^8:=Nat.lt_of_le_of_lt Nat.and_le_left ha
 apply Nat.eq_of_testBit_eq
 intro i
 rw[Nat.testBit_and,show a+256*x=2^8*x+a by omega,show d+256*m=2^8*m+d by omega,show(a&&&d)+256*(x&&&m)=2^8*(x&&&m)+(a&&&d) by omega,Nat.testBit_two_pow_mul_add _ ha,Nat.testBit_two_pow_mul_add _ hd,Nat.testBit_two_pow_mul_add _ h1]
 by_cases h:i<8
 ·rw[if_pos h,if_pos h,if_pos h,Nat.testBit_and]
 ·rw[if_neg h,if_neg h,if_neg h,Nat.testBit_and]
theorem z7wc (y d m:Nat) (hd:d<256):y&&&(d+256*m)=(y% 256&&&d)+256*(y/256&&&m):=by
 have:=z2dc (y% 256) (y/256) d m (Nat.mod_lt _ (by decide)) hd
 rw[show y% 256+256*(y/256)=y by omega] at this
 exact this
def g1 (b:Nat):Nat:=(b/2&&&85)+(b&&&85)
def g2 (b:Nat):Nat:=(b/4&&&51)+(b&&&51)
def g3 (b:Nat):Nat:=(b/16+b)&&&15
theorem z7he:∀b:Fin 512,(b.1/2% 256&&&85)=(b.1% 256/2&&&85):=by decide
theorem z3ke:∀b:Fin 1024,(b.1/4% 256&&&51)=(b.1% 256/4&&&51):=by decide
theorem z7Hd:∀b:Fin 256,g1 b.1<256∧g2 (g1 b.1)<256∧g2 (g1 b.1)% 16≤4∧g2 (g1 b.1)/16≤4∧g3 (g2 (g1 b.1))≤8:=by decide
theorem st1:∀l:List Nat,oks l→(vB l/2&&&rep 85 l.length)+(vB l&&&rep 85 l.length)=vB (l.map g1)
 |[],_=>rfl
 |b::l,h=>by
  have h1:=st1 l (fun x hx=>h x (List.mem_cons_of_mem _ hx))
  have h2:=h b (List.mem_cons_self ..)
  have e:=z7he ⟨(b+256*vB l)% 512,Nat.mod_lt _ (by decide)⟩
  simp only at e
  show((b+256*vB l)/2&&&(85+256*rep 85 l.length))+((b+256*vB l)&&&(85+256*rep 85 l.length))=g1 b+256*vB (l.map g1)
  rw[←h1,z7wc _ _ _ (by decide),z2dc _ _ _ _ h2 (by decide),g1]
  generalize vB l=v at*
  rw[show(b+256*v)/2/256=v/2 by omega,show(b+256*v)/2% 256=(b+256*v)% 512/2% 256 by omega,e,show(b+256*v)% 512% 256=b by omega]
  omega
theorem st2:∀l:List Nat,oks l→(vB l/4&&&rep 51 l.length)+(vB l&&&rep 51 l.length)=vB (l.map g2)
 |[],_=>rfl
 |b::l,h=>by
  have h1:=st2 l (fun x hx=>h x (List.mem_cons_of_mem _ hx))
  have h2:=h b (List.mem_cons_self ..)
  have e:=z3ke ⟨(b+256*vB l)% 1024,Nat.mod_lt _ (by decide)⟩
  simp only at e
  show((b+256*vB l)/4&&&(51+256*rep 51 l.length))+((b+256*vB l)&&&(51+256*rep 51 l.length))=g2 b+256*vB (l.map g2)
  rw[←h1,z7wc _ _ _ (by decide),z2dc _ _ _ _ h2 (by decide),g2]
  generalize vB l=v at*
  rw[show(b+256*v)/4/256=v/4 by omega,show(b+256*v)/4% 256=(b+256*v)% 1024/4% 256 by omega,e,show(b+256*v)% 1024% 256=b by omega]
  omega
def z9ee (l:List Nat):Prop:=∀b∈l,b<256∧b% 16≤4∧b/16≤4
theorem z53d:∀l:List Nat,z9ee l→vB l% 16≤4
 |[],_=>by decide
 |b::l,h=>by
  have h2:=h b (List.mem_cons_self ..)
  show(b+256*vB l)% 16≤4
  omega
theorem z90d (x:Nat) (h:x<256):x&&&15=x% 16:=Nat.and_two_pow_sub_one_eq_mod x 4
theorem st3:∀l:List Nat,z9ee l→((vB l/16+vB l)&&&rep 15 l.length)=vB (l.map g3)
 |[],_=>rfl
 |b::l,h=>by
  have hl:z9ee l:=fun x hx=>h x (List.mem_cons_of_mem _ hx)
  have h1:=st3 l hl
  have h2:=h b (List.mem_cons_self ..)
  have h3:=z53d l hl
  show(((b+256*vB l)/16+(b+256*vB l))&&&(15+256*rep 15 l.length))=g3 b+256*vB (l.map g3)
  rw[←h1,z7wc _ _ _ (by decide),g3]
  generalize vB l=v at*
  have e:(b+256*v)/16+(b+256*v)=(b/16+b+16*(v% 16))+256*(v/16+v):=by omega
  rw[e]
  have l1:b/16+b+16*(v% 16)<256:=by omega
  rw[show((b/16+b+16*(v% 16))+256*(v/16+v))/256=v/16+v by omega,show((b/16+b+16*(v% 16))+256*(v/16+v))% 256=b/16+b+16*(v% 16) by omega,z90d _ l1,z90d _ (by omega)]
  omega
end Go.Abs
namespace Go.Abs
set_option maxRecDepth 20000
/-! ### All eight bytes together -/
theorem oN_g:∀b:Fin 256,g3 (g2 (g1 b.1))=b.1% 2+(b.1/2% 2+(b.1/4% 2+(b.1/8% 2+(b.1/16% 2+(b.1/32% 2+(b.1/64% 2+b.1/128% 2)))))):=by decide
theorem z9wb {b:Nat} (h:b<256):oN b=g3 (g2 (g1 b)):=by
 rw[oN_g ⟨b,h⟩,z7u b,z7u (b/2),z7u (b/2/2),z7u (b/2/2/2),z7u (b/2/2/2/2),z7u (b/2/2/2/2/2),z7u (b/2/2/2/2/2/2),z7u (b/2/2/2/2/2/2/2)]
 simp only[Nat.div_div_eq_div_mul]
 rw[show b/(2*2*2*2*2*2*2*2)=0 by omega,z7K]
 rfl
theorem vB8 (p0 p1 p2 p3 p4 p5 p6 p7:Nat):vB [p0,p1,p2,p3,p4,p5,p6,p7]=p0+256*(p1+256*(p2+256*(p3+256*(p4+256*(p5+256*(p6+256*(p7+256*0))))))):=rfl
theorem z4he {p r:Nat} (hp:p<256):(p+256*r)/256=r:=by omega
theorem z32d {a b c:Nat} (h:a+256*b<65536):(a+256*(b+256*c))/65536=c:=by omega
theorem z2Rd {a b c d e:Nat} (h:a+256*(b+256*(c+256*d))<4294967296):(a+256*(b+256*(c+256*(d+256*e))))/4294967296=e:=by omega
theorem z2Tc {c0 c1 c2 c3 c4 c5 c6 c7:Nat} (h0:c0<256) (h1:c1<256) (h2:c2<256) (h3:c3<256) (h4:c4<256) (h5:c5<256) (h6:c6<256) (h7:c7<256):vB [c0,c1,c2,c3,c4,c5,c6,c7]<2^64:=by
 have:=z5jd (l:=[c0,c1,c2,c3,c4,c5,c6,c7]) (fun b hb=>by
  simp only[List.mem_cons,List.not_mem_nil,or_false] at hb
  rcases hb with h|h|h|h|h|h|h|h<;>(rw[h];assumption))
 rw[show [c0,c1,c2,c3,c4,c5,c6,c7].length=8 from rfl,show(256:Nat)^8=2^64 by decide] at this
 exact this
set_option maxHeartbeats 4000000 in
theorem sum8 {p0 p1 p2 p3 p4 p5 p6 p7 x y z:Nat} (h0:p0≤8) (h1:p1≤8) (h2:p2≤8) (h3:p3≤8) (h4:p4≤8) (h5:p5≤8) (h6:p6≤8) (h7:p7≤8)
  (hx:x=vB [p0,p1,p2,p3,p4,p5,p6,p7]+vB [p0,p1,p2,p3,p4,p5,p6,p7]/256) (hy:y=x+x/65536) (hz:z=y+y/4294967296):
  x<2^64∧y<2^64∧z<2^64∧z% 128=p0+p1+p2+p3+p4+p5+p6+p7:=by
 have ex:x=vB [p0+p1,p1+p2,p2+p3,p3+p4,p4+p5,p5+p6,p6+p7,p7]:=by
  rw[hx,vB8,z4he (by omega),vB8];omega
 have ey:y=vB [p0+p1+p2+p3,p1+p2+p3+p4,p2+p3+p4+p5,p3+p4+p5+p6,p4+p5+p6+p7,p5+p6+p7,p6+p7,p7]:=by
  rw[hy,ex,vB8,z32d (by omega),vB8];omega
 have ez:z=vB [p0+p1+p2+p3+p4+p5+p6+p7,p1+p2+p3+p4+p5+p6+p7,p2+p3+p4+p5+p6+p7,p3+p4+p5+p6+p7,p4+p5+p6+p7,p5+p6+p7,p6+p7,p7]:=by
  rw[hz,ey,vB8,z2Rd (by omega),vB8];omega
 clear hx hy hz
 refine And.intro ?_ (And.intro ?_ (And.intro ?_ ?_))
 ·rw[ex]
  clear ex ey ez
  apply z2Tc<;>omega
 ·rw[ey]
  clear ex ey ez
  apply z2Tc<;>omega
 ·rw[ez]
  clear ex ey ez
  apply z2Tc<;>omega
 ·rw[ez,vB8]
  clear ex ey ez
  rw[show∀w S:Nat,S≤64→(S+256*w)% 128=S from fun w S h=>by omega]
  omega
theorem z4Fb {c r B:Nat} (hc:c<256) (hr:r≤B):c+256*r≤255+256*B:=by omega
theorem z9Ud {x:Nat} (h:x≤4971973988617027583):x/16+x<2^64:=by omega
theorem z7Dd {c0 c1 c2 c3 c4 c5 c6 c7:Nat} (h0:c0<256) (h1:c1<256) (h2:c2<256) (h3:c3<256) (h4:c4<256) (h5:c5<256) (h6:c6<256) (h7:c7≤68):vB [c0,c1,c2,c3,c4,c5,c6,c7]≤4971973988617027583:=by
 rw[vB8]
 exact z4Fb h0 (B:=19421773393035263) (z4Fb h1 (B:=75866302316543) (z4Fb h2 (B:=296352743423) (z4Fb h3 (B:=1157627903) (z4Fb h4 (B:=4521983) (z4Fb h5 (B:=17663) (z4Fb h6 (B:=68) (show c7+256*0≤68 by omega)))))))
def sB1 (x:Nat):Nat:=(x/2&&&6148914691236517205)+(x&&&6148914691236517205)
def sB2 (x:Nat):Nat:=(x/4&&&3689348814741910323)+(x&&&3689348814741910323)
def sB3 (x:Nat):Nat:=(x/16+x)&&&1085102592571150095
set_option maxHeartbeats 4000000 in
theorem swar {x:Nat} (h:x<2^64):sB1 x<2^64∧sB2 (sB1 x)<2^64∧sB2 (sB1 x)/16+sB2 (sB1 x)<2^64∧∃p0 p1 p2 p3 p4 p5 p6 p7:Nat,(p0≤8∧p1≤8∧p2≤8∧p3≤8)∧(p4≤8∧p5≤8∧p6≤8∧p7≤8)∧sB3 (sB2 (sB1 x))=vB [p0,p1,p2,p3,p4,p5,p6,p7]∧oN x=p0+p1+p2+p3+p4+p5+p6+p7:=by
 have hx:x<256^8:=h
 have ev:=z4Rc 8 x hx
 have ok:=z8qd 8 x
 have eo:=z2Fc 8 x hx
 have el:=z4Tc 8 x
 generalize toB 8 x=l at*
 have k1:oks (l.map g1):=fun b hb=>by
  obtain⟨a,ha,rfl⟩:=List.mem_map.1 hb
  exact(z7Hd ⟨a,ok a ha⟩).1
 have k2:z9ee ((l.map g1).map g2):=fun b hb=>by
  obtain⟨a,ha,rfl⟩:=List.mem_map.1 hb
  obtain⟨c,hc,rfl⟩:=List.mem_map.1 ha
  have:=z7Hd ⟨c,ok c hc⟩
  exact⟨this.2.1,this.2.2.1,this.2.2.2.1⟩
 have k2':oks ((l.map g1).map g2):=fun b hb=>(k2 b hb).1
 have e1:=st1 l ok
 have e2:=st2 _ k1
 have e3:=st3 _ k2
 have n1:=z5jd k1
 have n2:=z5jd k2'
 simp only[List.length_map,el] at e1 e2 e3 n1 n2
 rw[show(256:Nat)^8=2^64 by decide] at n1 n2
 have t1:sB1 x=vB (l.map g1):=by rw[←e1,ev];rfl
 have t2:sB2 (sB1 x)=vB ((l.map g1).map g2):=by rw[t1,←e2];rfl
 have t3:sB3 (sB2 (sB1 x))=vB (((l.map g1).map g2).map g3):=by rw[t2,←e3];rfl
 have top:vB ((l.map g1).map g2)/16+vB ((l.map g1).map g2)<2^64:=by
  match l,el with
  |[a0,a1,a2,a3,a4,a5,a6,a7],_=>
   simp only[List.map_cons,List.map_nil]
   have h7:=(k2 (g2 (g1 a7)) (by simp)).2
   exact z9Ud (z7Dd (k2 _ (by simp)).1 (k2 _ (by simp)).1 (k2 _ (by simp)).1 (k2 _ (by simp)).1 (k2 _ (by simp)).1 (k2 _ (by simp)).1 (k2 _ (by simp)).1 (by omega))
 refine And.intro (by rw[t1];exact n1) (And.intro (by rw[t2];exact n2) (And.intro (by rw[t2];exact top) ?_))
 match l,el with
 |[a0,a1,a2,a3,a4,a5,a6,a7],_=>
  have q:∀a,a∈[a0,a1,a2,a3,a4,a5,a6,a7]→g3 (g2 (g1 a))≤8:=fun a ha=>(z7Hd ⟨a,ok a ha⟩).2.2.2.2
  simp only[List.map_cons,List.map_nil] at t3
  have eo':oN x=g3 (g2 (g1 a0))+g3 (g2 (g1 a1))+g3 (g2 (g1 a2))+g3 (g2 (g1 a3))+g3 (g2 (g1 a4))+g3 (g2 (g1 a5))+g3 (g2 (g1 a6))+g3 (g2 (g1 a7)):=by
   rw[eo]
   simp only[List.map_cons,List.map_nil,List.sum_cons,List.sum_nil]
   rw[z9wb (ok a0 (by simp)),z9wb (ok a1 (by simp)),z9wb (ok a2 (by simp)),z9wb (ok a3 (by simp)),z9wb (ok a4 (by simp)),z9wb (ok a5 (by simp)),z9wb (ok a6 (by simp)),z9wb (ok a7 (by simp))]
   simp only[Nat.add_zero,Nat.add_assoc]
  exact⟨g3 (g2 (g1 a0)),g3 (g2 (g1 a1)),g3 (g2 (g1 a2)),g3 (g2 (g1 a3)),g3 (g2 (g1 a4)),g3 (g2 (g1 a5)),g3 (g2 (g1 a6)),g3 (g2 (g1 a7)),⟨q a0 (by simp),q a1 (by simp),q a2 (by simp),q a3 (by simp)⟩,⟨q a4 (by simp),q a5 (by simp),q a6 (by simp),q a7 (by simp)⟩,t3,eo'⟩
end Go.Abs
end

section
namespace Go.Abs
def tzN (n:Nat):Nat:=if h:n=0 then 0 else if n% 2=1 then 0 else tzN (n/2)+1
termination_by n
decreasing_by omega
theorem z2rc {n:Nat} (h:n% 2=1):tzN n=0:=by rw[tzN,dif_neg (by omega),if_pos h]
theorem z7cc {n:Nat} (h0:n≠0) (h:n% 2=0):tzN n=tzN (n/2)+1:=by rw[tzN,dif_neg h0,if_neg (by omega)]
def t1N (n:Nat):Nat:=if h:n% 2=1 then t1N (n/2)+1 else 0
termination_by n
decreasing_by omega
theorem z0s {n:Nat} (h:n% 2=1):t1N n=t1N (n/2)+1:=by rw[t1N,dif_pos h]
theorem z8o {n:Nat} (h:n% 2=0):t1N n=0:=by rw[t1N,dif_neg (by omega)]
theorem z3u (n:Nat):t1N n≤oN n:=by
 induction n using Nat.strongRecOn with
 |ind n ih=>
  by_cases h:n% 2=1
  ·rw[z0s h,z7u]
   have:=ih (n/2) (by omega)
   omega
  ·rw[z8o (by omega)];exact Nat.zero_le _
theorem z4Hc:∀(w n:Nat),0<n→n<2^w→n&&&(2^w-n)=2^tzN n
 |0,n,h,h'=>by simp at h';omega
 |w+1,n,h,h'=>by
  have e:n&&&(2^(w+1)-n)=2*(n/2&&&(2^(w+1)-n)/2)+(n% 2)*((2^(w+1)-n)% 2):=by
   have hd:∀a b:Nat,a&&&b=2*(a/2&&&b/2)+(a% 2)*(b% 2):=fun a b=>by
    have h1:(a&&&b)/2=a/2&&&b/2:=Nat.and_div_two
    have h2:(a&&&b)% 2=(a% 2)*(b% 2):=by
     have:= @Nat.and_mod_two_pow a b 1
     simp only[Nat.pow_one] at this
     rw[this]
     rcases Nat.mod_two_eq_zero_or_one a with ha|ha<;>rcases Nat.mod_two_eq_zero_or_one b with hb|hb<;>rw[ha,hb]<;>rfl
    omega
   exact hd _ _
  rw[e]
  rw[Nat.pow_succ] at h'⊢
  by_cases ho:n% 2=1
  ·rw[z2rc ho,show(2^w*2-n)/2=2^w-(n/2+1) by omega,show(2^w*2-n)% 2=1 by omega,ho]
   have:n/2&&&(2^w-(n/2+1))=0:=by
    apply Nat.eq_of_testBit_eq
    intro i
    rw[Nat.testBit_and,Nat.testBit_two_pow_sub_succ (by omega)]
    cases Nat.testBit (n/2) i<;>simp
   rw[this]
  ·have he:n% 2=0:=by omega
   have:=z4Hc w (n/2) (by omega) (by omega)
   rw[z7cc (by omega) he,show(2^w*2-n)/2=2^w-n/2 by omega,this,he,Nat.pow_succ]
   omega
theorem z83d:∀(w n:Nat),n+1<2^w→tzN (2^w-1-n)=t1N n
 |0,n,h=>by simp at h
 |w+1,n,h=>by
  rw[Nat.pow_succ] at h⊢
  by_cases ho:n% 2=1
  ·rw[z0s ho,z7cc (by omega) (by omega),show(2^w*2-1-n)/2=2^w-1-n/2 by omega,z83d w (n/2) (by omega)]
  ·rw[z8o (by omega),z2rc (by omega)]
theorem z0nd:∀(w n:Nat),0<n→n<2^w→tzN n<w
 |0,n,h,h'=>by simp at h';omega
 |w+1,n,h,h'=>by
  rw[Nat.pow_succ] at h'
  by_cases ho:n% 2=1
  ·rw[z2rc ho];omega
  ·rw[z7cc (by omega) (by omega)]
   have:=z0nd w (n/2) (by omega) (by omega)
   omega
end Go.Abs
end

section
namespace Go.Abs
set_option maxRecDepth 100000
def z4Tb:z1f:=⟨fun ds=>∃x:UInt64,ds=[u64 x],fun ds=>i64 (oN (asI (nth ds 0)).toNat)⟩
@[simp] theorem z55d (x:UInt64):z4Tb.pre [u64 x]=True:=eq_true ⟨x,rfl⟩
@[simp] theorem z07b (x:UInt64):z4Tb.post [u64 x]=i64 (oN x.toNat):=by
 show i64 (oN ((x.toNat:Int)).toNat)=_
 rw[Int.toNat_natCast]
theorem z8nd (x:UInt64) {k c:Nat} (hk:k<64) (hc:c<2^64) (h:(x.toNat/2^k&&&c)+(x.toNat&&&c)<2^64) {c':UInt64} (hc':c'.toNat=c):((z5n x k&&&c')+(x&&&c')).toNat=(x.toNat/2^k&&&c)+(x.toNat&&&c):=by
 rw[UInt64.toNat_add,UInt64.toNat_and,UInt64.toNat_and,z3db x k hk,hc',Nat.mod_eq_of_lt h]
theorem z30d (x:UInt64) {k c:Nat} (hk:k<64) (h:x.toNat/2^k+x.toNat<2^64) {c':UInt64} (hc':c'.toNat=c):((z5n x k+x)&&&c').toNat=(x.toNat/2^k+x.toNat)&&&c:=by
 rw[UInt64.toNat_and,UInt64.toNat_add,z3db x k hk,hc',Nat.mod_eq_of_lt h]
theorem z10c (x:UInt64) {k:Nat} (hk:k<64) (h:x.toNat+x.toNat/2^k<2^64):(x+z5n x k).toNat=x.toNat+x.toNat/2^k:=by
 rw[UInt64.toNat_add,z3db x k hk,Nat.mod_eq_of_lt h]
theorem z4dd (z:Int):z2md z 127=z% 128:=by
 have h:(BitVec.ofInt 64 z&&&BitVec.ofInt 64 127).toNat=(z% 128).toNat:=by
  rw[BitVec.toNat_and,show(BitVec.ofInt 64 127).toNat=2^7-1 from rfl,Nat.and_two_pow_sub_one_eq_mod,BitVec.toNat_ofInt]
  omega
 rw[z2md,h,z7G]<;>omega
theorem z0he (z:Nat):W (z:Int)% 128=((z% 128:Nat):Int):=by
 unfold W IntKind.wrap IntKind.bits IntKind.signed
 simp only
 split<;>omega
def u1 (x:UInt64):UInt64:=(z5n x 1&&&6148914691236517205)+(x&&&6148914691236517205)
def u2 (x:UInt64):UInt64:=(z5n x 2&&&3689348814741910323)+(x&&&3689348814741910323)
def u3 (x:UInt64):UInt64:=(z5n x 4+x)&&&1085102592571150095
def u4 (k:Nat) (x:UInt64):UInt64:=x+z5n x k
theorem z48d (x:UInt64):(u4 32 (u4 16 (u4 8 (u3 (u2 (u1 x)))))).toNat% 128=oN x.toNat:=by
 obtain⟨a1,a2,a3,p0,p1,p2,p3,p4,p5,p6,p7,⟨q0,q1,q2,q3⟩,⟨q4,q5,q6,q7⟩,e,o⟩:=swar (x:=x.toNat) x.toNat_lt
 have e1:(u1 x).toNat=sB1 x.toNat:=z8nd x (k:=1) (c:=6148914691236517205) (by decide) (by decide) a1 rfl
 have e2:(u2 (u1 x)).toNat=sB2 (sB1 x.toNat):=by rw[u2,z8nd (u1 x) (k:=2) (c:=3689348814741910323) (by decide) (by decide) (by rw[e1];exact a2) rfl,e1];rfl
 have e3:(u3 (u2 (u1 x))).toNat=sB3 (sB2 (sB1 x.toNat)):=by rw[u3,z30d (u2 (u1 x)) (k:=4) (c:=1085102592571150095) (by decide) (by rw[e2];exact a3) rfl,e2];rfl
 rw[e] at e3
 generalize u3 (u2 (u1 x))=y at e3
 obtain⟨b1,b2,b3,b4⟩:=sum8 q0 q1 q2 q3 q4 q5 q6 q7 rfl rfl rfl
 have f1:(u4 8 y).toNat=y.toNat+y.toNat/256:=z10c y (k:=8) (by decide) (by rw[e3];exact b1)
 have f2:(u4 16 (u4 8 y)).toNat=(u4 8 y).toNat+(u4 8 y).toNat/65536:=z10c _ (k:=16) (by decide) (by rw[f1,e3];exact b2)
 have f3:(u4 32 (u4 16 (u4 8 y))).toNat=(u4 16 (u4 8 y)).toNat+(u4 16 (u4 8 y)).toNat/4294967296:=z10c _ (k:=32) (by decide) (by rw[f2,f1,e3];exact b3)
 rw[f3,f2,f1,e3,b4,o]
theorem z11c (E:Env):∀ds,z4Tb.pre ds→ds.length=z5ya.n∧awp E z5ya.body (z6va z5ya.res (z4Tb.post ds)) (z4H z5ya.wr ds):=by
 rintro _ ⟨x,rfl⟩
 rw[z07b]
 have f1:∀x:UInt64,(z5n x 1&&&6148914691236517205)+(x&&&6148914691236517205)=u1 x:=fun _=>rfl
 have f2:∀x:UInt64,(z5n x 2&&&3689348814741910323)+(x&&&3689348814741910323)=u2 x:=fun _=>rfl
 have f3:∀x:UInt64,(z5n x 4+x)&&&1085102592571150095=u3 x:=fun _=>rfl
 have f4:∀x:UInt64,x+z5n x 8=u4 8 x:=fun _=>rfl
 have f5:∀x:UInt64,x+z5n x 16=u4 16 x:=fun _=>rfl
 have f6:∀x:UInt64,x+z5n x 32=u4 32 x:=fun _=>rfl
 have hu:=z48d x
 simp(maxSteps:=1000000) (disch:=first|omega|simp;done|simp;omega) [z7G,z8pa,z7pa,z5ya,f1,f2,f3,f4,f5,f6]
 generalize u4 32 (u4 16 (u4 8 (u3 (u2 (u1 x)))))=y at*
 rw[z4dd,z0he,hu]
theorem z2wd (E:Env) (h194:E.G 194=z4Tb):∀ds,z4Tb.pre ds→ds.length=z7Ba.n∧awp E z7Ba.body (z6va z7Ba.res (z4Tb.post ds)) (z4H z7Ba.wr ds):=by
 rintro _ ⟨x,rfl⟩
 rw[z07b]
 simp(maxSteps:=1000000) (disch:=first|omega|simp;done|simp;omega) [z7G,z8pa,z7pa,z7Ba,z0fb,h194,z4ge]
/-! ### Zeros at the end -/
def dbT:List UInt8:=[0,1,56,2,57,49,28,3,61,58,42,50,38,29,17,4,62,47,59,36,45,43,51,22,53,39,33,30,24,18,12,5,63,55,48,27,60,41,37,16,46,35,44,21,52,32,23,11,54,26,40,15,34,20,31,10,25,14,19,9,13,8,7,6]
theorem z1Nd:∀k:Fin 64,2^k.1*285870213051353865% 2^64/2^58<64∧(dbT.getD (2^k.1*285870213051353865% 2^64/2^58) 0).toNat=k.1:=by decide+kernel
@[simp] theorem z3U (x:UInt64):unV .neg (u64 x)=u64 (-x):=z3c (by
 rw[UInt64.toNat_neg]
 have:=x.toNat_lt
 have hz:UInt64.size=18446744073709551616:=rfl
 rw[hz]
 simp only[IntKind.wrap,IntKind.bits,IntKind.signed]
 simp
 omega)
@[simp] theorem z4V (x:UInt64):z5S .neg (u64 x)=True:=rfl
def tzC:z1f:=⟨fun ds=>∃x:UInt64,x≠0∧ds=[u64 x],fun ds=>i64 (tzN (asI (nth ds 0)).toNat)⟩
theorem z0uc {x:UInt64} (h:x≠0):tzC.pre [u64 x]=True:=eq_true ⟨x,h,rfl⟩
@[simp] theorem z2Bc (x:UInt64):tzC.post [u64 x]=i64 (tzN x.toNat):=by
 show i64 (tzN ((x.toNat:Int)).toNat)=_
 rw[Int.toNat_natCast]
theorem z7ud {x:UInt64} (h:x≠0):(x&&& -x).toNat=2^tzN x.toNat:=by
 have h0:0<x.toNat:=by
  rcases Nat.eq_zero_or_pos x.toNat with e|e
  ·exact absurd (UInt64.toNat_inj.1 (by rw[e];rfl)) h
  ·exact e
 rw[UInt64.toNat_and,UInt64.toNat_neg,show UInt64.size=2^64 from rfl,Nat.mod_eq_of_lt (by omega)]
 exact z4Hc 64 _ h0 x.toNat_lt
theorem z1ie {x c:UInt64} (h:x≠0) (hc:c.toNat=285870213051353865):(z5n ((x&&& -x)*c) 58).toNat<64∧(dbT.getD (z5n ((x&&& -x)*c) 58).toNat 0).toNat=tzN x.toNat:=by
 have h0:0<x.toNat:=by
  rcases Nat.eq_zero_or_pos x.toNat with e|e
  ·exact absurd (UInt64.toNat_inj.1 (by rw[e];rfl)) h
  ·exact e
 rw[z3db _ _ (by decide),UInt64.toNat_mul,z7ud h,hc]
 exact z1Nd ⟨tzN x.toNat,z0nd 64 _ h0 x.toNat_lt⟩
theorem z28d (E:Env) (hT3:E.T 3=bys dbT) {x c:UInt64} (h:x≠0) (hc:c.toNat=285870213051353865) (he:c=285870213051353865) {Q0:z5c→ASt→Prop} (hQ0:Q0=z6va [z7M.t 2] (i64 (tzN x.toNat))):awp E z2Fa Q0 ⟨[(0,u64 x)],[(2,i64 0)],[]⟩:=by
 obtain⟨h1,h2⟩:=z1ie h hc
 unfold z2Fa
 rw[←he]
 clear he
 generalize hs:z5n ((x&&& -x)*c) 58=s at*
 have hl:dbT.length=64:=rfl
 have h3:hdA (bys (List.drop s.toNat dbT))=u8 (at8 dbT s.toNat):=z08b (by rw[hl];exact h1)
 have h4:(at8 dbT s.toNat).toNat=tzN x.toNat:=h2
 have h5:(s.toNat:Int)<64:=by omega
 simp(maxSteps:=1000000) (disch:=first|omega|simp;done|simp;omega) [z7G,z8pa,z7pa,hs,hT3,h3,h4,h5,hl,hQ0]
 omega
theorem z1zd (E:Env) (hT3:E.T 3=bys dbT):∀ds,tzC.pre ds→ds.length=z4ua.n∧awp E z4ua.body (z6va z4ua.res (tzC.post ds)) (z4H z4ua.wr ds):=by
 rintro _ ⟨x,hx,rfl⟩
 rw[z2Bc]
 have e0:(x=0)=False:=eq_false hx
 simp(maxSteps:=1000000) (disch:=first|omega|simp;done|simp;omega) [z7G,z8pa,z7pa,z4ua,e0,kT,kF,dT,dF]
 exact z28d E hT3 hx rfl rfl rfl
theorem z7fe (E:Env) (h190:E.G 190=tzC):∀ds,tzC.pre ds→ds.length=z0wa.n∧awp E z0wa.body (z6va z0wa.res (tzC.post ds)) (z4H z0wa.wr ds):=by
 rintro _ ⟨x,hx,rfl⟩
 rw[z2Bc]
 simp(maxSteps:=1000000) (disch:=first|omega|simp;done|simp;omega) [z7G,z8pa,z7pa,z0wa,z7Xa,h190,z4ge,z0uc hx]
end Go.Abs
end

section
namespace Go.Abs
theorem z8xc {l:List (List UInt8)} (h:z9n l):(l.flatMap z2X).length≤25*l.length:=by
 induction l with
 |nil=>simp
 |cons d l ih=>
  obtain⟨h1,h2⟩:=z1u.1 h
  have:=ih h2
  have e:=z7Aa (n:=(d.length:Int)) (by rw[h1];exact⟨by decide,by decide⟩)
  simp only[List.flatMap_cons,List.length_append,z2X,List.length_cons]
  omega
set_option maxHeartbeats 4000000 in
theorem z74c (E:Env) (h7:E.G 7=z4tb):∀ds,inM.pre ds→ds.length=z9Ea.n∧awp E z9Ea.body (z6va z9Ea.res (inM.post ds)) (z4H z9Ea.wr ds):=by
 rintro _ ⟨t,nl,l,h,hl,rfl⟩
 have hf:=z8xc h
 rw[z5Aa,z0Vb h]
 simp(maxSteps:=1000000) (disch:=first|omega|simp;done|simp;omega) [z7G,z8pa,z7pa,z9Ea]
 refine z1g fun Q0 hQ0=> ?_
 refine z2v (fun i:Nat=>⟨[(0,u8 t),(1,.sl .plain nl l.length (bys (dgs l)))],[(5,.sl (.own 1) (some false) (t::(l.take i).flatMap z2X).length (bys (t::(l.take i).flatMap z2X))),(10,.sl .plain nl l.length (bys (dgs l))),(11,i64 l.length),(12,i64 i)],[]⟩) (fun i=>l.length-i) (· ≤l.length) 0 (by simp;rfl) (by simp) fun i hi=> ?_
 refine z1g fun Q1 hQ1=> ?_
 by_cases h1:i<l.length
 ·have hs:=z7za l z2X [] h1
  have ha:=z8cb h h1
  have hx:=z4Ga h h1
  have hd:=z2ua h
  have hf':=z8xc (z4v h i)
  rw[List.length_take] at hf'
  rw[show l.getD i []=z5la l i from rfl] at hs
  generalize z5la l i=x at*
  generalize hF:(l.take i).flatMap z2X=F at*
  have e:=z7Aa (n:=(x.length:Int)) (by rw[hx];exact⟨by decide,by decide⟩)
  have el:(z2X x).length=(z4r x.length).length+x.length:=by rw[z2X,List.length_append]
  simp(maxSteps:=1000000) (disch:=first|omega|simp;done|simp;omega) [z7G,z8pa,z7pa,z62a,z2pb,h1,kT,kF,dT,dF,ha,hd,hx,z9ua,z7ta,h7,z9Gb,hQ1,-List.length_flatMap]
  exact⟨by omega,by omega,i+1,by omega,by omega,⟨by rw[hs,List.length_append];omega,hs.symm⟩,by omega⟩
 ·obtain rfl:i=l.length:=by omega
  simp(maxSteps:=1000000) (disch:=first|omega|simp;done|simp;omega) [z7G,z8pa,z7pa,z62a,z8mb,h1,kT,kF,dT,dF,hQ1,hQ0,-List.length_flatMap]
  rw[List.length_flatMap]
theorem z3Qc (E:Env) (h3:E.G 3=z7ac):∀ds,shM.pre ds→ds.length=z5Ka.n∧awp E z5Ka.body (z6va z5Ka.res (shM.post ds)) (z4H z5Ka.wr ds):=by
 rintro _ ⟨nl,b,hb,rfl⟩
 rw[z7Ac]
 simp(maxSteps:=1000000) (disch:=first|omega|simp;done|simp;omega) [z7G,z8pa,z7pa,z5Ka,h3,z7ld,z9ua,z5Db,List.take_take]
theorem z1Hd (E:Env) (h164:E.G 164=inM):∀ds,z5Wb.pre ds→ds.length=z0Ja.n∧awp E z0Ja.body (z6va z0Ja.res (z5Wb.post ds)) (z4H z0Ja.wr ds):=by
 rintro _ ⟨d,hd,rfl⟩
 have h1:z9n [d]:=z1u.2 ⟨hd,z6z⟩
 have hp:inM.pre [u8 1,.sl .plain (some false) 1 (bys d)]=True:=z1uc (l:=[d]) h1 (by simp) rfl (by simp)
 have hq:inM.post [u8 1,.sl .plain (some false) 1 (bys d)]= .sl (.own 1) (some false) (z4ga 1 [d]).length (bys (z4ga 1 [d])):=by
  have:=z0Vb (t:=1) (nl:=some false) h1
  rw[show dgs [d]=d by simp] at this
  exact this
 rw[z6Mc]
 simp(maxSteps:=1000000) (disch:=first|omega|simp;done|simp;omega) [z7G,z8pa,z7pa,z0Ja,h164,hp,hq,z9ua,hd,z7ta]
theorem z8Jd (E:Env) (h164:E.G 164=inM):∀ds,z4Rb.pre ds→ds.length=z1Ia.n∧awp E z1Ia.body (z6va z1Ia.res (z4Rb.post ds)) (z4H z1Ia.wr ds):=by
 rintro _ ⟨a,b,ha,hb,rfl⟩
 have h1:z9n [a,b]:=z1u.2 ⟨ha,z1u.2 ⟨hb,z6z⟩⟩
 have hp:inM.pre [u8 2,.sl .plain (some false) 2 (bys (a++b))]=True:=z1uc (l:=[a,b]) h1 (by simp) rfl (by simp)
 have hq:inM.post [u8 2,.sl .plain (some false) 2 (bys (a++b))]= .sl (.own 1) (some false) (z4ga 2 [a,b]).length (bys (z4ga 2 [a,b])):=by
  have:=z0Vb (t:=2) (nl:=some false) h1
  rw[show dgs [a,b]=a++b by simp] at this
  exact this
 have hsp:splice (splice (bys (z5j 32)) 0 (bys a)) 16 (bys b)=bys (a++b):=by
  simp[splice,ha,hb,z3Oa,List.take_append,List.drop_append,z5j,bys]
 rw[z8Lc]
 simp(maxSteps:=1000000) (disch:=first|omega|simp;done|simp;omega) [z7G,z8pa,z7pa,z1Ia,h164,hp,hq,hsp,z9ua,ha,hb,z7ta]
end Go.Abs
end

section
namespace Go.Abs
@[simp] theorem z7L (x n:Int):z9c .shl (i64 x) (i64 n)=i64 (W (x*2^(min n.toNat 64))):=rfl
@[simp] theorem z3z (x n:Int):z3a .shl (i64 x) (i64 n)=(0≤n):=rfl
theorem z6sc {m:Nat} (h:m<18446744073709551616):(UInt64.ofInt (m:Int)).toNat=m:=by
 simp only[UInt64.ofInt,UInt64.toNat_ofNat']
 omega
theorem z6kd (E:Env) (h170:E.G 170=z6Nc):∀ds,z4Ac.pre ds→ds.length=z7Fa.n∧awp E z7Fa.body (z6va z7Fa.res (z4Ac.post ds)) (z4H z7Fa.wr ds):=by
 rintro _ ⟨n,h2,h,rfl⟩
 rw[z2Yb]
 have e0:((n:Int)-1)=((n-1:Nat):Int):=by omega
 have e1:=z6sc (m:=n-1) (by omega)
 have h0:n-1≠0:=by omega
 have e2:z4gc (n-1)=Nat.log2 (n-1)+1:=by rw[z4gc,if_neg h0]
 have e3:Nat.log2 (n-1)<63:=(Nat.log2_lt h0).2 (by omega)
 have e4:=z1H h2
 simp(maxSteps:=1000000) (disch:=first|omega|simp;done|simp;omega) [z7G,z8pa,z7pa,z7Fa,h170,e0,e1,e2]
 have e5:W ((Nat.log2 (n-1):Int))=Nat.log2 (n-1):=z7G (by omega) (by omega)
 have e6:(2:Int)^Nat.log2 (n-1)=(spl n:Int):=by simp[spl]
 rw[e6,z7G (by omega) (by omega)]
theorem z1Fb {t:Int} {l:List (List UInt8)} (h:z9n l):(z4ga t l).length≤25*l.length+1:=by
 have:=z8xc h
 simp only[z4ga,List.length_cons];omega
theorem z0dc {a b:List UInt8} (ha:a.length=16) (hb:b.length=16):z9n [a,b]:=z1u.2 ⟨ha,z1u.2 ⟨hb,z6z⟩⟩
theorem z8kd {a:List UInt8} (ha:a.length=16):z9n [a]:=z1u.2 ⟨ha,z6z⟩
@[simp] theorem z7ob (b:List UInt8):(z5Db b).length=16:=by simp[z5Db,z4o]
def z1ib (ds:List z0a):Nat:=z7e (nth ds 0)
set_option maxHeartbeats 4000000 in
theorem z1Ad (E:Env) (k:Nat) (h164:E.G 164=inM) (h165:E.G 165=shM) (h166:E.G 166=z5Wb) (h167:E.G 167=z4Ac) (h169:E.G 169=z4Rb) (h168:E.G 168=z6Bb z2Ua z1ib k):∀ds,(z6Bb z2Ua z1ib (k+1)).pre ds→ds.length=z0ta.n∧awp E z0ta.body (z6va z0ta.res (z2Ua.post ds)) (z4H z0ta.wr ds):=by
 rintro _ ⟨⟨nl,l,h,hl,rfl⟩,hk⟩
 rw[z5Aa,z6Oa h rfl rfl]
 have hk:l.length<k+1:=hk
 by_cases h0:l.length=0
 ·have e:l=[]:=List.length_eq_zero_iff.1 h0
  subst e
  have hr:z9ia []=z5Db (z4ga 1 []):=z9Ab (by decide)
  have hp:inM.pre [u8 1,.sl .plain (some true) 0 []]=True:=z1uc (l:=[]) (b:=[]) z6z (by simp) rfl rfl
  have hq:inM.post [u8 1,.sl .plain (some true) 0 []]= .sl (.own 1) (some false) (z4ga 1 []).length (bys (z4ga 1 [])):=z0Vb (t:=1) (nl:=some true) z6z
  simp(maxSteps:=1000000) (disch:=first|omega|simp;done|simp;omega) [z7G,z8pa,z7pa,z0ta,h164,hp,hq,h165,z2mb,kT,kF,dT,dF,hr,z9ua]
  exact⟨of_eq_true (z2mb (by have:=z1Fb (t:=1) z6z;simp only[List.length_nil] at this;omega) rfl),z7ta (z7ob _)⟩
 by_cases h1:l.length=1
 ·obtain⟨d,rfl⟩:=List.length_eq_one_iff.1 h1
  have hd:d.length=16:=(z1u.1 h).1
  have hr:z9ia [d]=z5Db (z4ga 1 [d]):=z9Ab (by simp)
  simp(maxSteps:=1000000) (disch:=first|omega|simp;done|simp;omega) [z7G,z8pa,z7pa,z0ta,h166,z9Xb,h165,z2mb,kT,kF,dT,dF,hr,z9ua,hd,z7ta]
  exact of_eq_true (z2mb (by have:=z1Fb (t:=1) (z8kd hd);simp only[List.length_cons,List.length_nil] at this;omega) rfl)
 have h2:2≤l.length:=by omega
 have b0:((l.length:Int)==0)=false:=beq_false_of_ne (by omega)
 have b1:((l.length:Int)==1)=false:=beq_false_of_ne (by omega)
 have hd:=z2ua h
 have hs:=z1H h2
 have hs1:=z5v l.length
 have hr:=z9ac h2
 generalize hK:spl l.length=K at*
 have g1:z9n (l.take K):=z4v h K
 have g2:z9n (l.drop K):=z44a h K
 have htk:(dgs (l.drop K)).take ((l.length-K)*16)=dgs (l.drop K):=List.take_of_length_le (by rw[z2ua g2,List.length_drop];exact Nat.le_refl _)
 have lk1:(l.take K).length=K:=by rw[List.length_take];omega
 have lk2:(l.drop K).length=l.length-K:=List.length_drop
 have hp1:(z6Bb z2Ua z1ib k).pre [.sl .plain nl K (bys (dgs (l.take K)))]=True:=eq_true ⟨of_eq_true (z2db g1 (by omega) lk1.symm rfl),by show K<k;omega⟩
 have hq1:(z6Bb z2Ua z1ib k).post [.sl .plain nl K (bys (dgs (l.take K)))]= .agg (bys (z9ia (l.take K))):=z6Oa g1 lk1.symm rfl
 have hp2:(z6Bb z2Ua z1ib k).pre [.sl .plain nl (l.length-K) (bys (dgs (l.drop K)))]=True:=eq_true ⟨of_eq_true (z2db g2 (by omega) lk2.symm rfl),by show l.length-K<k;omega⟩
 have hq2:(z6Bb z2Ua z1ib k).post [.sl .plain nl (l.length-K) (bys (dgs (l.drop K)))]= .agg (bys (z9ia (l.drop K))):=z6Oa g2 lk2.symm rfl
 have r1:=z0Xa (l.take K)
 have r2:=z0Xa (l.drop K)
 have hil:=z1Fb (t:=2) (z0dc r1 r2)
 have hr':z9ia l=z5Db (z4ga 2 [z9ia (l.take K),z9ia (l.drop K)]):=hr
 have hsl:(z5Db (z4ga 2 [z9ia (l.take K),z9ia (l.drop K)])).length=16:=z7ob _
 rw[hr']
 simp only[List.length_cons,List.length_nil] at hil
 simp(maxSteps:=1000000) (disch:=first|omega|simp;done|simp;omega) [z7G,z8pa,z7pa,z0ta,z5ub,b0,b1,h167,z8ac,hK,hd,z63a h,z7Ab h,htk,h168,hp1,hq1,hp2,hq2,h169,z82b r1 r2,h165,z2mb,kT,kF,dT,dF,z9ua,z7ta hsl]
 exact Nat.le_of_lt hs
end Go.Abs
end

section
namespace Go.Abs
end Go.Abs
end
