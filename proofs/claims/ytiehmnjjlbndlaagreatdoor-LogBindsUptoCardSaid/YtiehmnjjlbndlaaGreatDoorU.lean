/- Lemmas. -/
import Derived.Test.YtiehmnjjlbndlaaGreatDoorR
import Derived.Test.YtiehmnjjlbndlaaGreatDoorT
set_option linter.all false
namespace Go.Abs
set_option maxRecDepth 100000
def Fv:av:=
 Yq (.block 1 (Yr [3,5,9,10,11] [Yi 13 1 9 11,Yj 14 13,Ym 5 14] (Yu [3,9,10,11] [YM 15 3,Ym 16 5,Yk 17 12 16,Yo 18 (.append 1 1 false (some false) none 15 (.s 17)),YM 3 18]))) (Yu [3,9,10,11] [YB 19 .add 11 1,Ym 11 19])
def Fw:av:=
 Yr [3,9,10,11,12] [Yb 12 .lss 11 10] (Yq (Yd 12 (Yy [3,9,10,11]) (YY [3])) Fv)
def Fq:av:=
 Yr [2] [YM 20 3,YM 2 20] .ret
def vI:nH:=
 {n:=1,wr:=[],res:=[.t 2],body:=Yr [] [Yv 2 1] (Yr [3] [Ym 6 0,Yn 7 6,Yk 8 12 7,YM 3 8] (Yq (Yr [3,9,10,11] [Ym 9 0,Yn 10 9,Yc 11 0] (.block 0 (.loop Fw))) Fq))}
def xH:av:=
 Yq (.block 1 (Yu [3,4] [YM 14 3,Ym 15 0,Ym 16 4,Yi 17 1 15 16,Yj 18 17,Yk 19 30 18,YN 20 1 1 14 19,YM 3 20])) (Yu [3,4] [Ym 12 4,YB 13 .add 12 1,Ym 4 13])
def xI:av:=
 Yq (Yr [3,4,11] [Ym 8 4,Ym 9 0,Yn 10 9,Yb 11 .lss 8 10] (Yd 11 (Yy [3,4]) (YY [3]))) xH
def xT:av:=
 Yr [2] [YM 21 3,YM 2 21] .ret
def qM:nH:=
 {n:=1,wr:=[],res:=[.t 2],body:=Yr [] [Yv 2 1] (Yr [3] [Ym 5 0,Yn 6 5,Yk 7 30 6,YM 3 7] (Yq (Yr [3,4] [Yc 4 0] (.block 0 (.loop xI))) xT))}
def HR:av:=
 Yq (.block 1 (Yr [3,5,9,10,11] [Yi 13 1 9 11,Yj 14 13,Ym 5 14] (Yu [3,9,10,11] [YM 15 3,Ym 16 5,Yk 17 7 16,Yo 18 (.append 1 1 false (some false) none 15 (.s 17)),YM 3 18]))) (Yu [3,9,10,11] [YB 19 .add 11 1,Ym 11 19])
def He:av:=
 Yr [3,9,10,11,12] [Yb 12 .lss 11 10] (Yq (Yd 12 (Yy [3,9,10,11]) (YY [3])) HR)
def G4:av:=
 Yr [2] [YM 20 3,YM 2 20] .ret
def KK:nH:=
 {n:=1,wr:=[],res:=[.t 2],body:=Yr [] [Yv 2 1] (Yr [3] [Ym 6 0,Yn 7 6,Yk 8 12 7,YM 3 8] (Yq (Yr [3,9,10,11] [Ym 9 0,Yn 10 9,Yc 11 0] (.block 0 (.loop He))) G4))}
def G5:av:=
 Yq (.block 1 (YR [3,5,9,10,11] [.norm [5]] [Yi 13 16 9 11,YJ 14 16 13,Yz 5 5 16,Ys 16 5 5 14] (Yu [3,9,10,11] [YM 15 3,Yo 16 (.slArr 16 1 (.s 5) none none none),Yo 17 (.append 1 1 false (some false) (some 5) 15 (.s 16)),YM 3 17]))) (.region [3,9,10,11] [.drop [5]] [YB 18 .add 11 1,Ym 11 18])
def HI:av:=
 Yr [3,9,10,11,12] [Yb 12 .lss 11 10] (Yq (Yd 12 (Yy [3,9,10,11]) (YY [3])) G5)
def HT:av:=
 Yr [2] [YM 19 3,YM 2 19] .ret
def Kw:nH:=
 {n:=1,wr:=[],res:=[.t 2],body:=Yr [] [Yv 2 1] (Yr [3] [Ym 6 0,Yn 7 6,Yk 8 12 7,YM 3 8] (Yq (Yr [3,9,10,11] [Ym 9 0,Yn 10 9,Yc 11 0] (.block 0 (.loop HI))) HT))}
def Is:av:=
 Yq (.block 2 (Yr [5,6,7,9,46,47,48] [Yi 50 1 46 48,Yj 51 50,Ym 9 51] (Yu [5,6,7,46,47,48] [Ym 52 7,YW 53 .shl 52 (u64 8),Ym 54 9,Ym 55 5,Yb 56 .xor 54 55,YE 57 .u64 56,Yb 58 .or 53 57,Ym 7 58]))) (Yu [5,6,7,46,47,48] [YB 59 .add 48 1,Ym 48 59])
def In:av:=
 Yr [5,6,7,46,47,48,49] [Yb 49 .lss 48 47] (Yq (Yd 49 (Yy [5,6,7,46,47,48]) (.ghost (.keep [5,6,7]) (.exit 1))) Is)
def Ij:av:=
 Yr [2,3,4] [Ym 67 7,YE 68 .i64 67,Ym 69 6,YB 70 .add 69 1,Ym 2 68,Ym 3 70,Yc 4 0] .ret
def Ix:av:=
 Yq (Yr [6,7,64] [Ym 63 5,YW 64 .gtr 63 (u8 0)] (Yd 64 (Yu [6,7] [Ym 65 7,YU 66 .xor 65,Ym 7 66]) (Yy [6,7]))) Ij
def Iq:av:=
 Yq (Yr [5,6,7,62] [Ym 60 7,YW 61 .shr 60 (u64 63),YW 62 .gtr 61 (u64 0)] (Yd 62 (Yr [2,3,4] [Yc 2 0,Yc 3 0,Yc 4 6] .ret) (Yy [5,6,7]))) Ix
def Iv:av:=
 Yr [5,6,7] [Yo 7 (.mv false (.c (u64 0)))] (Yq (Yr [5,6,7,46,47,48] [Ym 43 0,Ym 44 6,YB 45 .add 44 1,Yo 46 (.slSl 1 (.s 43) (some (.c (i64 1))) (some (.s 45)) none),Yn 47 46,Yc 48 0] (.block 1 (.loop In))) Iq)
def It:av:=
 Yr [5,6] [Ym 17 0,YI 18 1 17 0,Yj 19 18,Ym 20 5,Yb 21 .xor 19 20,YE 22 .i64 21,YB 23 .sub 22 128,Ym 6 23] (Yq (.block 0 (Yr [5,6,24] [Ym 25 6,YB 26 .gtr 25 8,Ym 24 26] (Yd 24 (Yr [2,3,4] [Yc 2 0,Yc 3 0,Yc 4 6] .ret) (Yr [5,6,27] [Ym 28 0,Yn 29 28,Ym 30 6,Yb 31 .leq 29 30,Ym 27 31] (Yd 27 (Yr [2,3,4] [Yc 2 0,Yc 3 0,Yc 4 5] .ret) (Yr [5,6,32] [Ym 33 6,YB 34 .gtr 33 0,Ym 35 34,YG 35 (Ym 36 0),YG 35 (YI 37 1 36 1),YG 35 (Yj 38 37),YG 35 (Ym 39 5),YG 35 (Yb 40 .xor 38 39),YG 35 (YW 41 .eql 40 (u8 0)),Yp 42 35 41,Ym 32 42] (Yd 32 (Yr [2,3,4] [Yc 2 0,Yc 3 0,Yc 4 6] .ret) (Yy [5,6])))))))) Iv)
def Im:av:=
 Yr [5] [Yo 5 (.mv false (.c (u8 0)))] (Yq (Yr [5,16] [Ym 13 0,YI 14 1 13 0,Yj 15 14,YW 16 .lss 15 (u8 128)] (Yd 16 (Yu [5] [Yo 5 (.mv false (.c (u8 255)))]) (Yy [5]))) It)
def MX:nH:=
 {n:=1,wr:=[],res:=[.t 2,.t 3,.t 4],body:=Yr [] [Yc 2 0,Yc 3 0,Yc 4 0] (Yq (Yr [12] [Ym 10 0,Yn 11 10,YB 12 .eql 11 0] (Yd 12 (Yr [2,3,4] [Yc 2 0,Yc 3 0,Yc 4 5] .ret) (Yy []))) Im)}
def GM:av:=
 Yr [2,3,4] [Ym 17 0,Ym 18 6,Ym 19 6,Ym 20 5,Yb 21 .add 19 20,Yo 22 (.slSl 1 (.s 17) (some (.s 18)) (some (.s 21)) none),Yo 23 (.toStr none (.s 22)),Ym 24 6,Ym 25 5,Yb 26 .add 24 25,Ym 2 23,Ym 3 26,Yc 4 0] .ret
def Kk:nH:=
 {n:=1,wr:=[],res:=[.t 2,.t 3,.t 4],body:=Yr [] [Yo 2 (.mv false (.c (st []))),Yc 3 0,Yc 4 0] (Yr [5,6,7] [Ym 9 0,YC 10 47 9 1,Ym 8 10,Ye 11 0 8,Ye 12 1 8,Ye 13 2 8,Ym 5 11,Ym 6 12,Ym 7 13] (Yq (Yr [5,6,7,15] [Ym 14 7,YB 15 .neq 14 0] (Yd 15 (Yr [2,3,4] [Ym 16 7,Yo 2 (.mv false (.c (st []))),Yc 3 0,Ym 4 16] .ret) (Yy [5,6]))) GM))}
def G1:av:=
 Yu [6,8,9,25,26] [YM 37 9,Ym 38 10,Yo 39 (.buildSl 1 1 [i64 0] [(0,1,.s 38)]),YN 40 1 8 37 39,Ym 41 11,YM 9 40,Ym 6 41]
def Hw:av:=
 Yq (.block 1 (YR [8,9,10,11,12,25,26] [.norm [24,1024]] [Ym 29 8,Yo 30 (.callm 61 (some (.s 29)) [] [(0,24),(1,1024)] []),Ym 28 30,Ye 31 0 28,Ye 32 1 28,Ye 33 2 28,Ym 10 31,Ym 11 32,Ym 12 33] (Yq (Yr [8,9,10,11,12,25,26,35] [Ym 34 12,YB 35 .neq 34 0] (Yd 35 (Yr [2,3,4] [Ym 36 12,Yv 2 1,Yc 3 0,Ym 4 36] .ret) (Yy [8,9,10,11,25,26]))) G1))) (Yu [6,8,9,25,26] [YB 42 .add 26 1,Ym 26 42])
def Hr:av:=
 Yr [6,8,9,25,26,27] [Yb 27 .lss 26 25] (Yq (Yd 27 (Yy [8,9,25,26]) (YY [6,9])) Hw)
def Hl:av:=
 Yr [2,3,4] [YM 43 9,Ym 44 6,YM 2 43,Ym 3 44,Yc 4 0] .ret
def Ho:av:=
 YR [5,6,8] [.norm [24,1024]] [Ym 22 0,Ym 23 6,Yo 24 (.callm 51 none [.s 22,.s 23] [] [(2,24),(3,1024)]),Ym 8 24] (Yr [5,6,8,9] [Yv 9 1] (Yq (Yr [6,8,9,25,26] [Ym 25 5,Yc 26 0] (.block 0 (.loop Hr))) Hl))
def KF:nH:=
 {n:=1,wr:=[],res:=[.t 2,.t 3,.t 4],body:=Yr [] [Yv 2 1,Yc 3 0,Yc 4 0] (Yr [5,6,7] [Ym 14 0,YC 15 47 14 1,Ym 13 15,Ye 16 0 13,Ye 17 1 13,Ye 18 2 13,Ym 5 16,Ym 6 17,Ym 7 18] (Yq (Yr [5,6,7,20] [Ym 19 7,YB 20 .neq 19 0] (Yd 20 (Yr [2,3,4] [Ym 21 7,Yv 2 1,Yc 3 0,Ym 4 21] .ret) (Yy [5,6]))) Ho))}
def u7:av:=
 Yq (.block 1 (Yr [5,25] [Ym 17 0,Ym 18 5,Yi 19 1 17 18,Yj 20 19,Ym 21 1,Ym 22 5,Yi 23 1 21 22,Yj 24 23,Yb 25 .neq 20 24] (Yd 25 (Yr [4] [Yw 4 false] .ret) (Yy [5])))) (Yu [5] [Ym 15 5,YB 16 .add 15 1,Ym 5 16])
def vg:av:=
 Yq (Yr [5,14] [Ym 11 5,Ym 12 0,Yn 13 12,Yb 14 .lss 11 13] (Yd 14 (Yy [5]) (YY []))) u7
def vf:av:=
 Yr [4] [Yw 4 true] .ret
def vd:av:=
 Yq (Yr [5] [Yc 5 0] (.block 0 (.loop vg))) vf
def pV:nH:=
 {n:=2,wr:=[],res:=[.t 4],body:=Yr [] [Yw 4 false] (Yq (Yr [10] [Ym 6 0,Yn 7 6,Ym 8 1,Yn 9 8,Yb 10 .neq 7 9] (Yd 10 (Yr [4] [Yw 4 false] .ret) (Yy []))) vd)}
def Fm:av:=
 Yu [6,8,21,22] [YM 35 8,Ym 36 9,Yo 37 (.buildSl 1 1 [st []] [(0,1,.s 36)]),YN 38 1 16 35 37,Ym 39 6,Ym 40 10,Yb 41 .add 39 40,YM 8 38,Ym 6 41]
def Ff:av:=
 Yq (.block 1 (Yr [6,8,9,10,11,21,22] [Ym 25 0,Ym 26 6,YF 27 1 25 26,Yk 28 48 27,Ym 24 28,Ye 29 0 24,Ye 30 1 24,Ye 31 2 24,Ym 9 29,Ym 10 30,Ym 11 31] (Yq (Yr [6,8,9,10,11,21,22,33] [Ym 32 11,YB 33 .neq 32 0] (Yd 33 (Yr [2,3,4] [Ym 34 11,Yv 2 1,Yc 3 0,Ym 4 34] .ret) (Yy [6,8,9,10,21,22]))) Fm))) (Yu [6,8,21,22] [YB 42 .add 22 1,Ym 22 42])
def Fe:av:=
 Yr [6,8,21,22,23] [Yb 23 .lss 22 21] (Yq (Yd 23 (Yy [6,8,21,22]) (YY [6,8])) Ff)
def Fl:av:=
 Yr [2,3,4] [YM 43 8,Ym 44 6,YM 2 43,Ym 3 44,Yc 4 0] .ret
def E9:av:=
 Yr [5,6,8] [Yv 8 1] (Yq (Yr [6,8,21,22] [Ym 21 5,Yc 22 0] (.block 0 (.loop Fe))) Fl)
def Ht:nH:=
 {n:=1,wr:=[],res:=[.t 2,.t 3,.t 4],body:=Yr [] [Yv 2 1,Yc 3 0,Yc 4 0] (Yr [5,6,7] [Ym 13 0,YC 14 47 13 1,Ym 12 14,Ye 15 0 12,Ye 16 1 12,Ye 17 2 12,Ym 5 15,Ym 6 16,Ym 7 17] (Yq (Yr [5,6,7,19] [Ym 18 7,YB 19 .neq 18 0] (Yd 19 (Yr [2,3,4] [Ym 20 7,Yv 2 1,Yc 3 0,Ym 4 20] .ret) (Yy [5,6]))) E9))}
def Fi:av:=
 Yq (.block 1 (Yr [6,8,18,19] [YM 21 8,Ym 22 0,Ym 23 6,Ym 24 6,YB 25 .add 24 16,Yo 26 (.slSl 1 (.s 22) (some (.s 23)) (some (.s 25)) none),Yo 27 (.s2ap 16 (.s 26)),YJ 28 16 27,YQ 29 28,YN 30 16 16 21 29,YM 8 30] (Yu [6,8,18,19] [Ym 31 6,YB 32 .add 31 16,Ym 6 32]))) (Yu [6,8,18,19] [YB 33 .add 19 1,Ym 19 33])
def Fh:av:=
 Yr [6,8,18,19,20] [Yb 20 .lss 19 18] (Yq (Yd 20 (Yy [6,8,18,19]) (YY [6,8])) Fi)
def Fk:av:=
 Yr [2,3,4] [YM 34 8,Ym 35 6,YM 2 34,Ym 3 35,Yc 4 0] .ret
def Fp:av:=
 Yr [5,6,8] [Yv 8 16] (Yq (Yr [6,8,18,19] [Ym 18 5,Yc 19 0] (.block 0 (.loop Fh))) Fk)
def HV:nH:=
 {n:=1,wr:=[],res:=[.t 2,.t 3,.t 4],body:=Yr [] [Yv 2 16,Yc 3 0,Yc 4 0] (Yr [5,6,7] [Ym 10 0,YC 11 47 10 16,Ym 9 11,Ye 12 0 9,Ye 13 1 9,Ye 14 2 9,Ym 5 12,Ym 6 13,Ym 7 14] (Yq (Yr [5,6,7,16] [Ym 15 7,YB 16 .neq 15 0] (Yd 16 (Yr [2,3,4] [Ym 17 7,Yv 2 16,Yc 3 0,Ym 4 17] .ret) (Yy [5,6]))) Fp))}
def zN:av:=
 Yq (.block 1 (Yr [5,25] [Ym 17 0,Ym 18 5,Yi 19 16 17 18,YJ 20 16 19,Ym 21 1,Ym 22 5,Yi 23 16 21 22,YJ 24 16 23,Yo 25 (.eqF (ks8 16) true (.s 20) (.s 24))] (Yd 25 (Yr [4] [Yw 4 false] .ret) (Yy [5])))) (Yu [5] [Ym 15 5,YB 16 .add 15 1,Ym 5 16])
def zM:av:=
 Yq (Yr [5,14] [Ym 11 5,Ym 12 0,Yn 13 12,Yb 14 .lss 11 13] (Yd 14 (Yy [5]) (YY []))) zN
def zS:av:=
 Yr [4] [Yw 4 true] .ret
def zT:av:=
 Yq (Yr [5] [Yc 5 0] (.block 0 (.loop zM))) zS
def Bj:nH:=
 {n:=2,wr:=[],res:=[.t 4],body:=Yr [] [Yw 4 false] (Yq (Yr [10] [Ym 6 0,Yn 7 6,Ym 8 1,Yn 9 8,Yb 10 .neq 7 9] (Yd 10 (Yr [4] [Yw 4 false] .ret) (Yy []))) zT)}
def J3:av:=
 Yr [4,5,6] [Ym 28 4,Ym 29 5,Ym 30 6,Ym 4 28,Ym 5 29,Ym 6 30] .ret
def OR:nH:=
 {n:=2,wr:=[],res:=[.t 4,.t 5,.t 6],body:=Yr [] [Yc 4 0,Yc 5 0,Yc 6 0] (Yr [4,5,6] [Ym 8 0,Yk 9 45 8,Ym 7 9,Ye 10 0 7,Ye 11 1 7,Ye 12 2 7,Ym 4 10,Ym 5 11,Ym 6 12] (Yq (.block 0 (Yr [4,5,6,13] [Ym 14 6,YB 15 .neq 14 0,Ym 13 15] (Yd 13 (Yy [4,5,6]) (Yr [4,5,6,16] [Ym 17 4,YB 18 .lss 17 0,Ym 16 18] (Yd 16 (Yu [4,5,6] [Yc 6 6]) (Yr [4,5,6,19] [Ym 20 4,Ym 21 0,Yn 22 21,Ym 23 5,Yb 24 .sub 22 23,Ym 25 1,Yb 26 .quo 24 25,Yb 27 .gtr 20 26,Ym 19 27] (Yd 19 (Yu [4,5,6] [Yc 6 5]) (Yy [4,5,6])))))))) J3))}
def Af:nH:=
 {n:=2,wr:=[],res:=[.t 4],body:=YR [2,3] [.norm [2,3]] [Yo 2 (.box 2 none true (.s 0)),Yo 3 (.box 3 none false (.s 1)),Yo 4 (.mv false (.c (.lit .nilFunc)))] (Yr [4] [Yo 5 (.mkfn 61 [] [.s 2,.s 3]),Ym 4 5] .ret)}
def w9:nH:=
 {n:=2,wr:=[],res:=[.t 2,.t 3,.t 4],body:=Yr [0,1] [Yc 2 0,Yc 3 0,Yc 4 0] (YR [0,1,5,6,7] [.norm [0,1]] [Yl 9 0 0,Yl 10 1 1,YF 11 1 9 10,Yk 12 45 11,Ym 8 12,Ye 13 0 8,Ye 14 1 8,Ye 15 2 8,Ym 5 13,Ym 6 14,Ym 7 15] (YR [0,1,5,7] [.norm [0,1]] [Yl 16 1 1,Ym 17 6,Yb 18 .add 16 17,YS 1 1 18] (YR [0,1,2,3,4] [.norm [0,1]] [Ym 19 5,Yl 20 1 1,Ym 21 7,Ym 2 19,Ym 3 20,Ym 4 21] .ret)))}
set_option maxHeartbeats 8000000
def DX:List pm->List pm->Bool
 |[],[]=>true
 |x::a,y::b=>vH x y&&DX a b
 |_,_=>false
theorem GZ:∀a b:List pm,DX a b=true↔a=b
 |[],[]=>by simp[DX]
 |[],_::_=>by simp[DX]
 |_::_,[]=>by simp[DX]
 |x::a,y::b=>by simp[DX,GZ a b,Gl]
theorem Sn{a b:List pm}(h:a≠b):DX a b=false:=by
 cases hc:DX a b with
 |false=>rfl
 |true=>exact absurd ((GZ a b).1 hc) h
theorem ZJ{a b:pm}(h:a≠b):vH a b=false:=by
 cases hc:vH a b with
 |false=>rfl
 |true=>exact absurd ((Gl a b).1 hc) h
def z5q:aW:=⟨λds=>∃(nl nl':Option Bool) (a b:List pm),Bh a∧Bh b∧a.length<=1000∧b.length<=1000∧ds=[qn nl a,qn nl' b],λds=>bo (DX (Cr (gNn (nth ds 0)) (gCs (nth ds 0))) (Cr (gNn (nth ds 1)) (gCs (nth ds 1))))⟩
theorem z2C{nl nl':Option Bool}{a b:List pm}(ha:Bh a)(hb:Bh b)(h1:a.length<=1000)(h2:b.length<=1000):z5q.pre [qn nl a,qn nl' b]=True:=eq_true ⟨nl,nl',a,b,ha,hb,h1,h2,rfl⟩
theorem R3{nl nl':Option Bool}{a b:List pm}(ha:Bh a)(hb:Bh b):z5q.post [qn nl a,qn nl' b]=bo (DX a b):=by show bo (DX (Cr a.length (pS a)) (Cr b.length (pS b)))=_;rw[An ha,An hb]
theorem z3Y(E:Env)(h329:E.G 329=Ih):∀ds,z5q.pre ds->ds.length=oW.n∧awp E oW.body (qH oW.res (z5q.post ds)) (fP oW.wr ds):=by
 rintro _ ⟨nl,nl',a,b,ha,hb,hla,hlb,rfl⟩;rw[R3 ha hb];unfold qn;have ea:=sd ha;have eb:=sd hb;generalize hQf:qH oW.res (bo (DX a b))=Qf;by_cases h:a.length=b.length
 rotate_left
 ·have hz:DX a b=false:=Sn λe=>h (by rw[e]);have h':¬((a.length:Int)=b.length):=by omega
  simp(maxSteps:=999999) (disch:=first|omega|simp<;>omega|rfl) [fJ,oG,oF,oW,h',kT,kF,hz,<-hQf];skip
 have h':((a.length:Int)=b.length):=by omega
 simp(maxSteps:=999999) (disch:=first|omega|simp<;>omega|rfl) [fJ,oG,oF,oW,ui,h',kT,kF];refine oI λQ0 hQ0=> ?_;refine dH (λi:Nat=>⟨[(0,.sl .plain nl a.length (pS a)),(1,.sl .plain nl' b.length (pS b))],[(5,i64 i)],[]⟩)
  (λi=>a.length-i) (λi=>i<=a.length∧a.take i=b.take i) 0 (by simp) (by simp) λi hi=> ?_
 obtain⟨hi,he⟩:=hi;refine oI λQ1 hQ1=> ?_;by_cases c:i<a.length
 ·have c':i<b.length:=by omega
  have xa:=yO ha c;have xb:=yO hb c';have sa:=ha _ (List.getElem_mem c);have sb:=hb _ (List.getElem_mem c');have p:=R5 (nc:=none) (nm:=none) (ng:=none) (nc':=none) (nm':=none) (ng':=none) sa sb;have q:=GH (nc:=none) (nm:=none) (ng:=none) (nc':=none) (nm':=none) (ng':=none) sa sb;have la:=Bq sa;have lb:=Bq sb;have l1:30<=a.length*30-i*30:=by omega
  have l2:i*30<=a.length*30:=by omega
  have l3:30<=b.length*30-i*30:=by omega
  have l4:i*30<=b.length*30:=by omega
  by_cases e:a[i]=b[i]
  ·have hz:vH a[i] b[i]=true:=(Gl _ _).2 e;have hT:=M3 c c' he e;generalize a[i]=x at*
   generalize b[i]=y at*
   simp(maxSteps:=999999) (disch:=first|omega|simp<;>omega|rfl) [fJ,oG,oF,qI,rX,kT,kF,dT,dF,c,c',ea,eb,xa,xb,h329,p,q,la,lb,l1,l2,l3,l4,hz,hQ1];exact⟨i+1,by omega,⟨by omega,hT⟩,by omega⟩
  have hz:vH a[i] b[i]=false:=ZJ e;have hz2:DX a b=false:=Sn λe'=>e (by subst e';rfl);generalize a[i]=x at*
  generalize b[i]=y at*
  simp(maxSteps:=999999) (disch:=first|omega|simp<;>omega|rfl) [fJ,oG,oF,qI,rX,kT,kF,dT,dF,c,c',ea,eb,xa,xb,h329,p,q,la,lb,l1,l2,l3,l4,hz,hQ1,hQ0,<-hQf,hz2,oW];skip
 obtain rfl:i=a.length:=by omega
 have hz:DX a b=true:=(GZ a b).2 (LO h he);simp(maxSteps:=999999) (disch:=first|omega|simp<;>omega|rfl) [fJ,oG,oF,qI,ug,kT,kF,dT,dF,hQ1,hQ0,<-hQf,hz,oW];skip
structure z6I (p:Io):Prop where
 f:aO p.from'
 e:Bh p.ents
 n:p.ents.length<=1000
 r:∀l∈p.prs,qm l∧l.length<=1000000
 k:p.prs.length<=1000
def gPrs(d:oH):List (List (List UInt8)):=(gCs d).map gDs
def WQ(d:oH):Io:=match d with| .agg [a,b,c]=>⟨asI a,Cr (gNn b) (gCs b),gPrs c⟩|_=>⟨0,[],[]⟩
theorem z0A{l:List (List (List UInt8))}(h:∀x∈l,qm x∧x.length<=1000000):(Hv l).map gDs=l:=by
 induction l with
 |nil=>rfl
 |cons a l ih=>have:=ih λx hx=>h x (by simp[hx]);rw[Hv] at this⊢;rw[List.map_cons,List.map_cons,this,ur,uv (h a (by simp)).1]
theorem z6p{np:Option Bool}{p:Io}(h:z6I p):WQ (EB np p)=p:=by obtain⟨f,e,r⟩:=p;show(⟨f,Cr e.length (pS e),(Hv r).map gDs⟩:Io)=_;rw[An h.e,z0A h.r]
theorem z1ja{l:List (List (List UInt8))}{i:Nat}(h:i<l.length):hdA ((Hv l).drop i)= .sl .plain none l[i].length (bys (dgs l[i])):=by rw[Hv,List.drop_eq_getElem_cons (by simpa using h),List.getElem_map];rfl
def z0q(n:Nat)(q:List (List UInt8))(x:pm):List (List UInt8):=mY 8 [tL x]::(KN q (bh 8 [tL x]) (t1N n)).reverse
def adI:Nat->List (List UInt8)->List pm->List (List UInt8)
 |_,_,[]=>[]
 |n,q,x::l=>z0q n q x++adI (n+1) (xF q (bh 8 [tL x]) (t1N n)) l
def piI(fr size:Nat)(es:List pm)(P0 P1:List (List UInt8)):List (List UInt8):=
 adI fr P0 es++(Zs (sx fr P0 (oO es))).reverse++(yI (fr+es.length) size true (Fa (sx fr P0 (oO es))) P1.reverse).1
theorem Uw(n:Nat)(q:List (List UInt8))(x:pm)(l:List pm):sx n q (oO (x::l))=sx (n+1) (xF q (bh 8 [tL x]) (t1N n)) (oO l):=rfl
theorem MJ(q:List (List UInt8))(d:List UInt8):∀s,(KN q d s).length=s+1
 |0=>rfl
 |s+1=>by rw[KN,List.length_cons,MJ q d s]
theorem z49(n:Nat):t1N n<=n:=Nat.le_trans (w5 n) (CI n)
theorem TT(N:Nat):∀(l:List pm) (n:Nat) (q:List (List UInt8)),n+l.length<=N->(adI n q l).length<=l.length*(N+2)
 |[],_,_,_=>by simp[adI]
 |x::l,n,q,h=>by have h1:=TT N l (n+1) (xF q (bh 8 [tL x]) (t1N n)) (by simp at h;omega);have h2:=z49 n;simp only[adI,z0q,List.length_append,List.length_cons,List.length_reverse,MJ,Nat.add_mul,Nat.one_mul] at h⊢;omega
theorem WY:∀(l:List pm) (n:Nat) (q:List (List UInt8)),(∀x∈l,mY 8 [tL x]∈adI n q l)∧∀i∈NP n q (oO l),i∈adI n q l
 |[],n,q=>⟨by simp,by simp[oO,NP]⟩
 |x::l,n,q=>by
  obtain⟨h1,h2⟩:=WY l (n+1) (xF q (bh 8 [tL x]) (t1N n));refine⟨λy hy=> ?_,λi hi=> ?_⟩
  ·rcases List.mem_cons.1 hy with rfl|hy
   ·simp[adI,z0q]
   exact List.mem_append_right _ (h1 y hy)
  rw[show oO (x::l)=bh 8 [tL x]::oO l from rfl,NP] at hi;rcases List.mem_append.1 hi with hi|hi
  ·exact List.mem_append_left _ (by simp[z0q,hi])
  exact List.mem_append_right _ (h2 i hi)
structure z9L (fr size:Nat) (es:List pm) (P0 P1:List (List UInt8)):Prop where
 p0:qm P0
 p1:qm P1
 e:Bh es
 b:∀x∈es,(tL x).length<=900000000000
 n1:1<=es.length
 n2:es.length<=1000
 l0:P0.length=oN fr
 l1:P1.length<=1000
 s1:fr+es.length<=size
 s2:size<=65536
theorem z5Z{fr size:Nat}{es:List pm}{P0 P1:List (List UInt8)}(h:z9L fr size es P0 P1):z6I ⟨(fr:Int),es,[P0,P1]⟩:=by
 have h1:=CI fr;have h2:=h.s1;have h3:=h.s2;have h4:=h.l0;have h5:=h.l1;have h6:=h.n2;refine⟨⟨by show-9223372036854775808<=(fr:Int);omega,by show(fr:Int)<=9223372036854775807;omega⟩,h.e,h6,λl hl=> ?_,by show(2:Nat)<=1000;decide⟩;simp only[List.mem_cons,List.not_mem_nil,or_false] at hl;rcases hl with rfl|rfl
 ·exact⟨h.p0,by omega⟩
 exact⟨h.p1,by omega⟩
def QN:CM:=⟨[0],[],λds=>∃(s:List (List UInt8)×Bool) (np:Option Bool) (fr size:Nat) (es:List pm) (P0 P1:List (List UInt8)),z9L fr size es P0 P1∧s.1.length<=500000000∧ds=[.ep (hA s),EB np ⟨(fr:Int),es,[P0,P1]⟩,i64 size],
 λ_=> .tup [],λds _=>hA (qS (gH (nth ds 0)) (piI (WQ (nth ds 1)).from'.toNat (asI (nth ds 2)).toNat (WQ (nth ds 1)).ents ((WQ (nth ds 1)).prs.getD 0 []) ((WQ (nth ds 1)).prs.getD 1 [])))⟩
@[simp] theorem piH_bx:QN.bx=[0]:=rfl
@[simp] theorem piH_nb:QN.nb=[]:=rfl
theorem z9J{s:List (List UInt8)×Bool}{np:Option Bool}{fr size:Nat}{es:List pm}{P0 P1:List (List UInt8)}(h:z9L fr size es P0 P1)(hs:s.1.length<=500000000):QN.pre [.ep (hA s),EB np ⟨(fr:Int),es,[P0,P1]⟩,i64 size]=True:=eq_true ⟨s,np,fr,size,es,P0,P1,h,hs,rfl⟩
@[simp] theorem z2g(ds:List oH):QN.post ds= .tup []:=rfl
theorem U6{s:List (List UInt8)×Bool}{np:Option Bool}{fr size:Nat}{es:List pm}{P0 P1:List (List UInt8)}(h:z9L fr size es P0 P1)(j:Nat):QN.out [.ep (hA s),EB np ⟨(fr:Int),es,[P0,P1]⟩,i64 size] j=hA (qS s (piI fr size es P0 P1)):=by show hA (qS (gH (.ep (hA s))) (piI (WQ (EB np ⟨(fr:Int),es,[P0,P1]⟩)).from'.toNat (size:Int).toNat (WQ (EB np ⟨(fr:Int),es,[P0,P1]⟩)).ents ((WQ (EB np ⟨(fr:Int),es,[P0,P1]⟩)).prs.getD 0 []) ((WQ (EB np ⟨(fr:Int),es,[P0,P1]⟩)).prs.getD 1 [])))=_;rw[SV,z6p (z5Z h)];rfl
def Ub:aW:=⟨Na.pre,λds=> .tup [pkA (H9 (gPn (nth ds 0)) (gPl (nth ds 0)) (gBs (gCs (nth ds 1)))).1.1 none (H9 (gPn (nth ds 0)) (gPl (nth ds 0)) (gBs (gCs (nth ds 1)))).1.2,i64 (H9 (gPn (nth ds 0)) (gPl (nth ds 0)) (gBs (gCs (nth ds 1)))).2]⟩
theorem z9i{n:Int}{nl:Option Bool}{l:List (List UInt8)}{b d:List UInt8}{k:Nat}(hn:inI n)(h:qm l)(hl:l.length<=1000000)(hd:d.length=16)(hk:k=l.length)(hb:b=dgs l):Ub.pre [.agg [i64 n,.sl .plain nl k (bys b)],.agg (bys d)]=True:=L3 hn h hl hd hk hb
theorem Nd{n:Int}{m:cH}{nl:Option Bool}{l:List (List UInt8)}{b d:List UInt8}{k:Nat}(h:qm l)(hk:k=l.length)(hb:b=dgs l):Ub.post [.agg [i64 n,.sl m nl k (bys b)],.agg (bys d)]= .tup [pkA (H9 n l d).1.1 none (H9 n l d).1.2,i64 (H9 n l d).2]:=by simp only[Ub];rw[hk,hb,show nth [oH.agg [i64 n,.sl m nl l.length (bys (dgs l))],.agg (bys d)] 0=oH.agg [i64 n,.sl m nl l.length (bys (dgs l))] from rfl,show gBs (gCs (nth [oH.agg [i64 n,.sl m nl l.length (bys (dgs l))],.agg (bys d)] 1))=d from by simp[nth,gCs],LF,Mi,uv h]
theorem PW(n:Nat):∀i,i<=t1N n->t1N (hlf n i)=t1N n-i
 |0,_=>rfl
 |i+1,h=>by
  have ih:=PW n i (by omega);have ho:hlf n i% 2=1:=by
   by_cases hc:hlf n i% 2=1
   ·exact hc
   rw[yJ (by omega)] at ih;omega
  rw[Db ho] at ih;rw[hlf];omega
theorem Ji(n:Nat):0<t1N n↔n% 2=1:=by
 by_cases h:n% 2=1
 ·rw[Db h];omega
 rw[yJ (by omega)];omega
set_option maxHeartbeats 8000000 in
theorem z7H(E:Env)(h201:E.G 201=z3l)(h202:E.G 202=Xn)(h211:E.G 211=Lk):∀ds,Ub.pre ds->ds.length=pZ.n∧awp E pZ.body (qH pZ.res (Ub.post ds)) (fP pZ.wr ds):=by
 rintro _ ⟨n,nl,l,d,hn,hl,hlen,hd,rfl⟩;rw[show Ub.post [pkA n nl l,.agg (bys d)]= .tup [pkA (H9 n l d).1.1 none (H9 n l d).1.2,i64 (H9 n l d).2] from Nd hl rfl rfl,H9];unfold pkA ur;have v1:=Gv (nl:=nl) hn hl hlen rfl rfl;have v2:=A5 (n:=n) (m:= .plain) (nl:=nl) hl rfl rfl;have hk:okP n l.length=false∨okP n l.length=true:=by cases okP n l.length<;>simp
 rcases hk with ho|ho
 ·rw[ho] at v2;have x1:¬(okP n l.length=true∧n≠4294967296):=by simp[ho]
  rw[if_neg x1];simp(maxSteps:=999999) (disch:=first|omega|simp<;>omega|rfl) [fJ,oG,oF,pZ,h211,v1,v2,kT,kF,hd,oJ]
 rw[ho] at v2;by_cases h2:n=4294967296
 ·have x1:¬(okP n l.length=true∧n≠4294967296):=by simp[h2]
  rw[if_neg x1];subst h2;simp(maxSteps:=999999) (disch:=first|omega|simp<;>omega|rfl) [fJ,oG,oF,pZ,h211,v1,v2,kT,kF,hd,oJ]
 obtain⟨g0,g1,g2⟩:0<=n∧n<4294967296∧l.length=oN n.toNat:=by simp only[okP,Bool.and_eq_true,decide_eq_true_eq] at ho;exact⟨ho.1.1,by omega,ho.2⟩
 have gt:=w5 n.toNat;have hbF:(n==4294967296)=false:=by simpa using h2
 rw[if_pos ⟨ho,h2⟩];obtain⟨m,rfl⟩:=Int.eq_ofNat_of_zero_le g0;rw[Int.toNat_natCast] at gt g2⊢;have hlf0:bh 1 [d]=zY l d 0:=rfl;have fl0:=vA l d 0;have hdl:=qL hl;simp(maxSteps:=999999) (disch:=first|omega|simp<;>omega|rfl) [fJ,oG,oF,pZ,h211,v1,v2,kT,kF,hd,oJ,hbF,dF,h2,za,h201,ZR,hlf0,fl0,oM];refine oI λQ0 hQ0=> ?_;generalize ht:t1N m=t at*
 refine dH (λi:Nat=>⟨[(0,.agg [i64 m,.sl .plain nl l.length (bys (dgs l))]),(1,.agg (bys d))],[(2,.bp 2 0),(4,.bp 4 0),(6,.bp 6 0),(7,i64 (hlf m i)),(8,i64 (l.length-i:Nat))],[(2,some [i64 m,.sl .plain nl l.length (bys (dgs l))]),(3,some (bys d)),(4,some [i64 0,.sl (.own 16) none 0 []]),(6,some (bys (zY l d i)))]⟩) (λi=>t-i) (λi=>i<=t) 0 (by simp[hlf]) (Nat.zero_le _) λi hi=> ?_;refine oI λQ1 hQ1=> ?_;have fl:=vA l d i;have tk:=oM fl;have hth:=PW m i (by omega);have hle:=RY m i;have et:((hlf m i:Nat):Int).tmod 2=((hlf m i% 2:Nat):Int):=rfl;have hpi:=Ji (hlf m i);by_cases h:i<t
 ·have ho1:hlf m i% 2=1:=hpi.1 (by omega);have hat:=zW hl (show l.length-i-1<l.length by omega);have hal:=sG hl (show l.length-i-1<l.length by omega);have es:bh 2 [ul l (l.length-i-1),zY l d i]=zY l d (i+1):=by rw[zY,show l.length-1-i=l.length-i-1 by omega]
  have fl1:=vA l d (i+1);have ei:(((l.length-i:Nat):Int)-1).toNat=l.length-i-1:=by omega
  simp(maxSteps:=999999) (disch:=first|omega|simp<;>omega|rfl) [fJ,oG,oF,uQ,zy,et,ho1,kT,kF,hat,hdl,ei,h202,F9 hal fl,es,fl1,fl,tk,oJ];refine⟨⟨by omega,by omega⟩,by omega,?_⟩;rw[hQ1];refine⟨i+1,by omega,by omega,?_⟩;rw[hlf];simp;omega
 have hit:i=t:=by omega
 subst hit;have ho1:hlf m i% 2=0:=by omega
 have el:dgs (xF l d i)=dgs (l.take (l.length-i))++zY l d i:=by rw[xF,Ct,wV,JV,List.append_nil]
 have ell:(xF l d i).length=l.length-i+1:=by simp[xF]
 have htk:=xt hl (l.length-i);have htl:=qL (sD hl (l.length-i));rw[List.length_take,Nat.min_eq_left (by omega)] at htl;simp(maxSteps:=999999) (disch:=first|omega|simp<;>omega|rfl) [fJ,oG,oF,uQ,et,ho1,kT,kF];rw[hQ1];show Q0 (.exit 0) _;rw[hQ0];show awp E uN _ _;simp(maxSteps:=999999) (disch:=first|omega|simp<;>omega|rfl) [fJ,oG,oF,uN,oJ,fl,tk,hdl,htk,htl,el,ell];omega
end Go.Abs