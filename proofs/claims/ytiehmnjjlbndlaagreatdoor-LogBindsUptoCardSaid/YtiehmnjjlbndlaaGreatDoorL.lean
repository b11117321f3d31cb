/- Lemmas. -/
import Derived.Test.YtiehmnjjlbndlaaGreatDoorK
set_option linter.all false
namespace Go.Abs
set_option maxRecDepth 100000
def DT:av:=
 Yq (.block 1 (Yr [5,25] [Ym 17 0,Ym 18 5,Yi 19 16 17 18,YJ 20 16 19,Ym 21 1,Ym 22 5,Yi 23 16 21 22,YJ 24 16 23,Yo 25 (.eqF (ks8 16) true (.s 20) (.s 24))] (Yd 25 (Yr [4] [Yw 4 false] .ret) (Yy [5])))) (Yu [5] [Ym 15 5,YB 16 .add 15 1,Ym 5 16])
def DV:av:=
 Yq (Yr [5,14] [Ym 11 5,Ym 12 0,Yn 13 12,Yb 14 .lss 11 13] (Yd 14 (Yy [5]) (YY []))) DT
def DM:av:=
 Yr [4] [Yw 4 true] .ret
def DL:av:=
 Yq (Yr [5] [Yc 5 0] (.block 0 (.loop DV))) DM
def FH:nH:=
 {n:=2,wr:=[],res:=[.t 4],body:=Yr [] [Yw 4 false] (Yq (Yr [10] [Ym 6 0,Yn 7 6,Ym 8 1,Yn 9 8,Yb 10 .neq 7 9] (Yd 10 (Yr [4] [Yw 4 false] .ret) (Yy []))) DL)}
def qy:av:=
 YR [5,6,11] [.norm [5,6,11]] [YL 19 16 5 5,Ym 20 2,Ym 21 3,Ym 22 4,Yo 23 (.call 205 [.s 19,.s 20,.s 21,.c (bo true),.s 22] []),Yo 11 (.alloc 11 (bys (bF 32)++[bo false])),Ys 33 11 11 23] (YR [10] [.norm [5,6,11]] [Yf 24 32 11,Yl 25 11 24,Ym 26 25,YG 26 (Yf 27 0 11),YG 26 (YL 28 16 11 27),YG 26 (YL 29 16 5 5),YG 26 (Yo 30 (.eqF (ks8 16) false (.s 28) (.s 29))),Yp 31 26 30,Ym 32 31,YG 32 (Yf 33 16 11),YG 32 (YL 34 16 11 33),YG 32 (YL 35 16 6 6),YG 32 (Yo 36 (.eqF (ks8 16) false (.s 34) (.s 35))),Yp 37 32 36,Ym 10 37] .ret)
def oZ:nH:=
 {n:=5,wr:=[],res:=[.t 10],body:=YR [5,6] [.norm [5,6]] [Yx 5 5 16 0,Yx 6 6 16 1,Yw 10 false] (Yq (Yr [5,6,18] [Ym 12 2,YB 13 .lss 12 1,Ym 14 13,Yg 14 (Ym 15 2),Yg 14 (Ym 16 3),Yg 14 (Yb 17 .gtr 15 16),YP 18 14 17] (Yd 18 (Yr [10] [Yw 10 false] .ret) (Yy [5,6]))) qy)}
def tM:av:=
 YR [11,12,13,19,20,21] [.norm [5,11,12,13,16,17,20,21]] [YL 82 16 5 5,Ym 83 1,Ym 84 14,Yb 85 .sub 83 84,Ym 86 2,Ym 87 14,Yb 88 .sub 86 87,Ym 89 4,Ym 90 4,Yn 91 90,YB 92 .sub 91 1,YX 93 16 89 92,Yo 94 (.call 208 [.s 82,.s 85,.s 88,.c (bo false),.s 93] []),YM 81 94,Yo 95 (.extractO 81),Ye 96 1 81,Ye 97 2 81,Yz 20 20 16,Yz 21 21 16,YM 19 95,Ys 16 20 20 96,Ys 16 21 21 97] (YR [11,12,13,19,21,22] [.norm [5,11,12,13,16,17,20,21]] [YL 98 16 13 13,Yk 99 23 98,YL 100 16 20 20,Yk 101 23 100,Yo 102 (.buildSl 1 2 [st [],st []] [(0,1,.s 99),(1,1,.s 101)]),Yo 103 (.call 21 [.c (i64 2),.s 102] []),YM 22 103] (YR [11,12,19,22,23] [.norm [5,11,12,13,16,17,20,21]] [YL 104 16 13 13,Yk 105 23 104,YL 106 16 21 21,Yk 107 23 106,Yo 108 (.buildSl 1 2 [st [],st []] [(0,1,.s 105),(1,1,.s 107)]),Yo 109 (.call 21 [.c (i64 2),.s 108] []),YM 23 109] (Yr [11,12,19,22,23] [YM 110 19,Ym 111 22,Ym 112 23,Yo 113 (.buildSl 1 2 [.sl .plain none 0 [],.sl .plain none 0 []] [(0,1,.s 111),(1,1,.s 112)]),YN 114 1 24 110 113,YM 19 114] (YR [10,11,12] [.norm [5,11,12,13,16,17,20,21]] [YM 115 19,YM 116 22,Yk 117 28 116,YM 118 23,Yk 119 28 118,YM 10 115,Ys 16 11 11 117,Ys 16 12 12 119] .ret))))
def rM:av:=
 Yr [5,11,12,13,14] [Ym 48 2,Yk 49 195 48,Ym 14 49] (Yq (Yr [5,11,12,13,14,52] [Ym 50 1,Ym 51 14,Yb 52 .leq 50 51] (Yd 52 (YR [11,12,13,15,16,17] [.norm [5,11,12,13,16,17]] [YL 54 16 5 5,Ym 55 1,Ym 56 14,Ym 57 3,Ym 58 4,Ym 59 4,Yn 60 59,YB 61 .sub 60 1,YX 62 16 58 61,YT 63 208 [54,55,56,57,62],YM 53 63,Yo 64 (.extractO 53),Ye 65 1 53,Ye 66 2 53,Yz 16 16 16,Yz 17 17 16,YM 15 64,Ys 16 16 16 65,Ys 16 17 17 66] (YR [11,12,15,16,18] [.norm [5,11,12,13,16,17]] [YL 67 16 17 17,Yk 68 23 67,YL 69 16 13 13,Yk 70 23 69,Yo 71 (.buildSl 1 2 [st [],st []] [(0,1,.s 68),(1,1,.s 70)]),Yo 72 (.call 21 [.c (i64 2),.s 71] []),YM 18 72] (Yr [11,12,15,16,18] [YM 73 15,Ym 74 18,Yo 75 (.buildSl 1 1 [.sl .plain none 0 []] [(0,1,.s 74)]),YN 76 1 24 73 75,YM 15 76] (YR [10,11,12] [.norm [5,11,12,13,16,17]] [YM 77 15,YL 78 16 16 16,YM 79 18,Yk 80 28 79,YM 10 77,Ys 16 11 11 78,Ys 16 12 12 80] .ret)))) (Yy [5,11,12,13,14]))) tM)
def qx:av:=
 YR [5,11,12,13] [.norm [5,11,12,13]] [Ym 37 4,Ym 38 4,Yn 39 38,YB 40 .sub 39 1,Yi 41 16 37 40,YJ 42 16 41,Yz 13 13 16,Ys 16 13 13 42] (Yq (Yr [5,11,12,13,45] [Ym 43 1,Ym 44 2,Yb 45 .eql 43 44] (Yd 45 (YR [10,11,12] [.norm [5,11,12,13]] [YL 46 16 13 13,YL 47 16 13 13,Yv 10 1,Ys 16 11 11 46,Ys 16 12 12 47] .ret) (Yy [5,11,12,13]))) rM)
def oP:nH:=
 {n:=5,wr:=[],res:=[.o 10,.cell 11 (some 16) 11,.cell 12 (some 16) 12],body:=YR [5,11,12] [.norm [5,11,12]] [Yx 5 5 16 0,Yv 10 1,Yz 11 11 16,Yz 12 12 16] (Yq (Yr [5,11,12,34] [Ym 24 1,Ym 25 2,Yb 26 .eql 24 25,Ym 27 26,YG 27 (Ym 28 3),Yp 29 27 28,Ym 30 29,Yg 30 (Ym 31 4),Yg 30 (Yn 32 31),Yg 30 (YB 33 .eql 32 0),YP 34 30 33] (Yd 34 (YR [10,11,12] [.norm [5,11,12]] [YL 35 16 5 5,YL 36 16 5 5,Yv 10 1,Ys 16 11 11 35,Ys 16 12 12 36] .ret) (Yy [5,11,12]))) qx)}
def C2:nH:=
 {n:=2,wr:=[],res:=[.t 4],body:=YR [2,3] [.norm [2,3]] [Yx 2 2 2 0,Yx 3 3 2 1,Yw 4 false] (YR [2,3,5] [.norm [2,3]] [Yf 6 1 2,Yl 7 2 6,Yf 8 1 3,Yl 9 3 8,YK 10 200 7 9,Ym 5 10] (YR [4] [.norm [2,3]] [Ym 11 5,Ym 12 11,YG 12 (Yf 13 0 2),YG 12 (Yl 14 2 13),YG 12 (Yf 15 0 3),YG 12 (Yl 16 3 15),YG 12 (Yb 17 .eql 14 16),Yp 18 12 17,Ym 4 18] .ret))}
def zy:av:=
 .block 1 (Yr [2,4,6,7,8] [Ym 29 8,YB 30 .sub 29 1,Ym 8 30] (YR [2,4,6,7,8] [.norm [2,3,4,6]] [Yf 31 1 2,Yl 32 2 31,Ym 33 8,Yi 34 16 32 33,YJ 35 16 34,YL 36 16 6 6,YK 37 202 35 36,Ys 16 6 6 37] (Yu [2,4,6,7,8] [Ym 38 7,YB 39 .quo 38 2,Ym 7 39])))
def uQ:av:=
 Yq (Yr [2,4,6,7,8,28] [Ym 26 7,YB 27 .rem 26 2,YB 28 .eql 27 1] (Yd 28 (Yy [2,4,6,7,8]) (YY [2,4,6,8]))) zy
def uN:av:=
 YR [2,4,6,8,9] [.norm [2,3,4,6,9],.reB 9 1 (some 16),.norm [2,3,4,6,9]] [Yf 40 0 2,Yl 41 2 40,YB 42 .add 41 1,Yo 43 (.build [i64 0,.sl .plain (some true) 0 []] [(0,1,.s 42)]),Yo 9 (.alloc 9 [i64 0,.sl (.own 16) none 0 []]),Ys 2 9 9 43] (YR [4,6,9] [.norm [2,3,4,6,9]] [Yf 44 1 9,Yo 45 (.load none (some 9) true (.s 44)),Yf 46 1 2,Yl 47 2 46,Ym 48 8,YX 49 16 47 48,YN 50 16 16 45 49,Yf 51 1 9,YO (.store none 9 true (.s 51) (.s 50))] (YR [4,9] [.norm [2,3,4,6,9],.reB 9 1 none,.norm [2,3,4,6,9]] [Yf 52 1 9,Yo 53 (.load none (some 9) true (.s 52)),YL 54 16 6 6,YQ 55 54,YN 56 16 16 53 55,Yf 57 1 9,YO (.store none 9 true (.s 57) (.s 56))] (YR [4,5] [.norm [2,3,4,6,9]] [YL 58 2 9 9,Ys 2 4 4 58,Yc 5 0] .ret)))
def za:av:=
 YR [2,4,6] [.norm [2,3,4,6]] [YL 19 16 3 3,Yk 20 201 19,Yz 6 6 16,Ys 16 6 6 20] (YR [2,4,6,7] [.norm [2,3,4,6]] [Yf 21 0 2,Yl 22 2 21,Ym 7 22] (YR [2,4,6,7,8] [.norm [2,3,4,6]] [Yf 23 1 2,Yl 24 2 23,Yn 25 24,Ym 8 25] (Yq (.block 0 (.loop uQ)) uN)))
def pZ:nH:=
 {n:=2,wr:=[],res:=[.cell 4 (some 2) 4,.t 5],body:=YR [2,3,4] [.norm [2,3,4]] [Yx 2 2 2 0,Yx 3 3 16 1,Yo 4 (.alloc 4 [i64 0,.sl (.own 16) none 0 []]),Yc 5 0] (Yq (YR [2,3,4,17] [.norm [2,3,4]] [YL 10 2 2 2,Yk 11 211 10,YU 12 .not 11,Ym 13 12,Yg 13 (Yf 14 0 2),Yg 13 (Yl 15 2 14),Yg 13 (YB 16 .eql 15 4294967296),YP 17 13 16] (Yd 17 (YR [4,5] [.norm [2,3,4]] [Yo 18 (.build [i64 0,.sl .plain none 0 []] []),Ys 2 4 4 18,Yc 5 1] .ret) (Yy [2,3,4]))) za)}
def yT:av:=
 Yq (.block 1 (.region [1,2,4,5] [.norm [1,2,4]] [Yf 31 1 1,Yl 32 1 31,Ym 33 5,Yi 34 16 32 33,YJ 35 16 34,YL 36 16 4 4,YK 37 202 35 36,Ys 16 4 4 37])) (Yu [1,2,4,5] [Ym 29 5,YB 30 .sub 29 1,Ym 5 30])
def uJ:av:=
 Yq (Yr [1,2,4,5,28] [Ym 27 5,YB 28 .geq 27 0] (Yd 28 (Yy [1,2,4,5]) (YY [2,4]))) yT
def yQ:av:=
 YR [2,3] [.norm [1,2,4]] [YL 38 16 4 4,Ys 16 2 2 38,Yc 3 0] .ret
def zk:av:=
 YR [1,2,4] [.norm [1,2,4]] [Yf 15 1 1,Yl 16 1 15,Yf 17 1 1,Yl 18 1 17,Yn 19 18,YB 20 .sub 19 1,Yi 21 16 16 20,YJ 22 16 21,Yz 4 4 16,Ys 16 4 4 22] (Yq (YR [1,2,4,5] [.norm [1,2,4]] [Yf 23 1 1,Yl 24 1 23,Yn 25 24,YB 26 .sub 25 2,Ym 5 26] (.block 0 (.loop uJ))) yQ)
def uL:av:=
 Yq (YR [1,2,13] [.norm [1,2]] [Yf 10 1 1,Yl 11 1 10,Yn 12 11,YB 13 .eql 12 0] (Yd 13 (YR [2,3] [.norm [1,2]] [Yo 14 (.call 20 [.c (i64 1),.c (.lit (.slice none 0 0))] []),Ys 16 2 2 14,Yc 3 0] .ret) (Yy [1,2]))) zk
def pY:nH:=
 {n:=1,wr:=[],res:=[.cell 2 (some 16) 2,.t 3],body:=YR [1,2] [.norm [1,2]] [Yx 1 1 2 0,Yz 2 2 16,Yc 3 0] (Yq (YR [1,2,8] [.norm [1,2]] [YL 6 2 1 1,Yk 7 211 6,YU 8 .not 7] (Yd 8 (YR [2,3] [.norm [1,2]] [Yo 9 (.build (bys (bF 16)) []),Ys 16 2 2 9,Yc 3 1] .ret) (Yy [1,2]))) uL)}
def xp:av:=
 .block 1 (Yu [3] [Ym 9 3,Yo 10 (.bin .mul (.c (i64 2)) (.s 9)),Ym 3 10])
def t7:av:=
 Yq (Yr [3,8] [Ym 4 3,Ym 5 0,Ym 6 3,Yb 7 .sub 5 6,Yb 8 .lss 4 7] (Yd 8 (Yy [3]) (YY [3]))) xp
def xo:av:=
 Yr [2] [Ym 11 3,Ym 2 11] .ret
def rj:nH:=
 {n:=1,wr:=[],res:=[.t 2],body:=Yr [] [Yc 2 0] (Yr [3] [Yc 3 1] (Yq (.block 0 (.loop t7)) xo))}
def qN:nH:=
 {n:=1,wr:=[],res:=[.cell 2 (some 16) 2],body:=YR [1,2] [.norm [1,2]] [Yx 1 1 16 0,Yz 2 2 16] (YR [2] [.norm [1,2]] [YL 3 16 1 1,Yk 4 23 3,Yo 5 (.buildSl 1 1 [st []] [(0,1,.s 4)]),Yo 6 (.call 20 [.c (i64 1),.s 5] []),Ys 16 2 2 6] .ret)}
def qJ:nH:=
 {n:=2,wr:=[],res:=[.cell 4 (some 16) 4],body:=YR [2,3,4] [.norm [2,3,4]] [Yx 2 2 16 0,Yx 3 3 16 1,Yz 4 4 16] (YR [4] [.norm [2,3,4]] [YL 5 16 2 2,Yk 6 23 5,YL 7 16 3 3,Yk 8 23 7,Yo 9 (.buildSl 1 2 [st [],st []] [(0,1,.s 6),(1,1,.s 8)]),Yo 10 (.call 20 [.c (i64 2),.s 9] []),Ys 16 4 4 10] .ret)}
def wq:av:=
 YR [10,11,15] [.norm [5,10,11,14,15]] [YL 72 16 5 5,Ym 73 1,Ym 74 13,Yb 75 .sub 73 74,Ym 76 2,Ym 77 13,Yb 78 .sub 76 77,YM 79 12,Yo 80 (.call 205 [.s 72,.s 75,.s 78,.c (bo false),.s 79] []),Yo 15 (.alloc 15 (bys (bF 32)++[bo false])),Ys 33 15 15 80] (YR [10] [.norm [5,10,11,14,15]] [YL 81 16 11 11,Yf 82 0 15,YL 83 16 15 82,YK 84 202 81 83,YL 85 16 11 11,Yf 86 16 15,YL 87 16 15 86,YK 88 202 85 87,Yf 89 32 15,Yl 90 15 89,Yo 91 (.build (bys (bF 32)++[bo false]) [(0,16,.s 84),(16,16,.s 88),(32,1,.s 90)]),Ys 33 10 10 91] .ret)
def ti:av:=
 Yr [5,10,11,12,13] [Ym 52 2,Yk 53 195 52,Ym 13 53] (Yq (Yr [5,10,11,12,13,56] [Ym 54 1,Ym 55 13,Yb 56 .leq 54 55] (Yd 56 (YR [10,11,14] [.norm [5,10,11,14]] [YL 57 16 5 5,Ym 58 1,Ym 59 13,Ym 60 3,YM 61 12,YT 62 205 [57,58,59,60,61],Yo 14 (.alloc 14 (bys (bF 32)++[bo false])),Ys 33 14 14 62] (YR [10] [.norm [5,10,11,14]] [Yf 63 0 14,YL 64 16 14 63,Yf 65 16 14,YL 66 16 14 65,YL 67 16 11 11,YK 68 202 66 67,Yf 69 32 14,Yl 70 14 69,Yo 71 (.build (bys (bF 32)++[bo false]) [(0,16,.s 64),(16,16,.s 68),(32,1,.s 70)]),Ys 33 10 10 71] .ret)) (Yy [5,10,11,12,13]))) wq)
def rW:av:=
 YR [5,10,11] [.norm [5,10,11]] [Ym 32 4,Ym 33 4,Yn 34 33,YB 35 .sub 34 1,Yi 36 16 32 35,YJ 37 16 36,Yz 11 11 16,Ys 16 11 11 37] (Yr [5,10,11,12] [Ym 38 4,Ym 39 4,Yn 40 39,YB 41 .sub 40 1,YX 42 16 38 41,YM 12 42] (Yq (Yr [5,10,11,12,45] [Ym 43 1,Ym 44 2,Yb 45 .eql 43 44] (Yd 45 (YR [10] [.norm [5,10,11]] [YL 46 16 11 11,YL 47 16 11 11,YM 48 12,Yn 49 48,YB 50 .eql 49 0,Yo 51 (.build (bys (bF 32)++[bo false]) [(0,16,.s 46),(16,16,.s 47),(32,1,.s 50)]),Ys 33 10 10 51] .ret) (Yy [5,10,11,12]))) ti))
def qe:av:=
 Yq (Yr [5,10,30] [Ym 28 4,Yn 29 28,YB 30 .eql 29 0] (Yd 30 (YR [10] [.norm [5,10]] [Yo 31 (.build (bys (bF 32)++[bo false]) []),Ys 33 10 10 31] .ret) (Yy [5,10]))) rW
def o5:nH:=
 {n:=5,wr:=[],res:=[.cell 10 (some 33) 10],body:=YR [5,10] [.norm [5,10]] [Yx 5 5 16 0,Yo 10 (.alloc 10 (bys (bF 32)++[bo false]))] (Yq (Yr [5,10,21] [Ym 16 1,Ym 17 2,Yb 18 .eql 16 17,Ym 19 18,YG 19 (Ym 20 3),Yp 21 19 20] (Yd 21 (YR [10] [.norm [5,10]] [YL 22 16 5 5,YL 23 16 5 5,Ym 24 4,Yn 25 24,YB 26 .eql 25 0,Yo 27 (.build (bys (bF 32)++[bo false]) [(0,16,.s 22),(16,16,.s 23),(32,1,.s 26)]),Ys 33 10 10 27] .ret) (Yy [5,10]))) qe)}
def pg:nH:=
 {n:=1,wr:=[],res:=[.t 2],body:=YR [1] [.norm [1]] [Yx 1 1 2 0,Yw 2 false] (YR [2] [.norm [1]] [Yf 3 0 1,Yl 4 1 3,YB 5 .geq 4 0,Ym 6 5,YG 6 (Yf 7 0 1),YG 6 (Yl 8 1 7),YG 6 (YB 9 .leq 8 4294967296),Yp 10 6 9,Ym 11 10,YG 11 (Yf 12 1 1),YG 11 (Yl 13 1 12),YG 11 (Yn 14 13),YG 11 (Yf 15 0 1),YG 11 (Yl 16 1 15),YG 11 (Yk 17 214 16),YG 11 (Yb 18 .eql 14 17),Yp 19 11 18,Ym 2 19] .ret)}
def xS:av:=
 .block 1 (Yr [0,3] [Ym 6 3,Ym 7 0,YB 8 .rem 7 2,Yb 9 .add 6 8,Ym 3 9] (Yu [0,3] [Ym 10 0,YB 11 .quo 10 2,Ym 0 11]))
def um:av:=
 Yq (Yr [0,3,5] [Ym 4 0,YB 5 .gtr 4 0] (Yd 5 (Yy [0,3]) (YY [3]))) xS
def xL:av:=
 Yr [2] [Ym 12 3,Ym 2 12] .ret
def qK:nH:=
 {n:=1,wr:=[0],res:=[.t 2],body:=Yr [0] [Yc 2 0] (Yr [0,3] [Yc 3 0] (Yq (.block 0 (.loop um)) xL))}
def z3l:aW:=⟨λds=>∃d:List UInt8,d.length=16∧ds=[.agg (bys d)],λds=> .agg (bys (bh 1 [gBs (gCs (nth ds 0))]))⟩
def Xn:aW:=⟨λds=>∃a b:List UInt8,a.length=16∧b.length=16∧ds=[.agg (bys a),.agg (bys b)],λds=> .agg (bys (bh 2 [gBs (gCs (nth ds 0)),gBs (gCs (nth ds 1))]))⟩
theorem ZR{d:List UInt8}(h:d.length=16):z3l.pre [.agg (bys d)]=True:=eq_true ⟨d,h,rfl⟩
theorem F9{a b:List UInt8}(ha:a.length=16)(hb:b.length=16):Xn.pre [.agg (bys a),.agg (bys b)]=True:=eq_true ⟨a,b,ha,hb,rfl⟩
@[simp] theorem Uz(d:List UInt8):z3l.post [.agg (bys d)]= .agg (bys (bh 1 [d])):=by simp[z3l]
@[simp] theorem Ws(a b:List UInt8):Xn.post [.agg (bys a),.agg (bys b)]= .agg (bys (bh 2 [a,b])):=by simp[Xn,nth]
theorem z0W{t:Int}{nl:Option Bool}{d:List UInt8}(h:d.length=16):Kq.pre [i64 t,.sl .plain nl 1 [st d]]=True:=eq_true ⟨t,nl,[d],by simp[Co,h],rfl⟩
theorem z5ha{t:Int}{nl:Option Bool}{a b:List UInt8}(h:a.length=16)(h':b.length=16):Kq.pre [i64 t,.sl .plain nl 2 [st a,st b]]=True:=eq_true ⟨t,nl,[a,b],by simp[Co,h,h'],rfl⟩
theorem z58(t:Int)(m:cH)(nl:Option Bool)(d:List UInt8):Kq.post [i64 t,.sl m nl 1 [st d]]= .agg (bys (bh t [d])):=by show oH.agg (bys (bh t (gSs (sts [d]))))=_;simp
theorem z0ha(t:Int)(m:cH)(nl:Option Bool)(a b:List UInt8):Kq.post [i64 t,.sl m nl 2 [st a,st b]]= .agg (bys (bh t [a,b])):=by show oH.agg (bys (bh t (gSs (sts [a,b]))))=_;simp
theorem z0ja(E:Env)(h20:E.G 20=Kq)(h23:E.G 23=yy):∀ds,z3l.pre ds->ds.length=qN.n∧awp E qN.body (qH qN.res (z3l.post ds)) (fP qN.wr ds):=by rintro _ ⟨d,hd,rfl⟩;rw[Uz];have hl:=pG 1 [d];simp(maxSteps:=999999) (disch:=first|omega|simp<;>omega|rfl) [fJ,oG,oF,qN,h20,h23,wB,z0W,z58,hd,oM,oJ,hl]
theorem z4Y(E:Env)(h20:E.G 20=Kq)(h23:E.G 23=yy):∀ds,Xn.pre ds->ds.length=qJ.n∧awp E qJ.body (qH qJ.res (Xn.post ds)) (fP qJ.wr ds):=by rintro _ ⟨a,b,ha,hb,rfl⟩;rw[Ws];have hl:=pG 2 [a,b];simp(maxSteps:=999999) (disch:=first|omega|simp<;>omega|rfl) [fJ,oG,oF,qJ,h20,h23,wB,z5ha,z0ha,ha,hb,oM,oJ,hl]
theorem XT{n i:Nat}(h:2<=n)(hi:2^i<n)(hc:¬(2^i<n-2^i)):2^i=spl n:=by
 have h1:=kK h;have h2:=AX h;unfold spl at*
 rw[Rl hi (by omega) h1 h2]
set_option maxHeartbeats 4000000 in
theorem z4M(E:Env):∀ds,LM.pre ds->ds.length=rj.n∧awp E rj.body (qH rj.res (LM.post ds)) (fP rj.wr ds):=by
 rintro _ ⟨n,h2,hn,rfl⟩;rw[Nx];simp(maxSteps:=999999) (disch:=first|omega|simp<;>omega|rfl) [fJ,oG,oF,rj];refine oI λQ0 hQ0=> ?_;refine dH (λi:Nat=>⟨[(0,i64 n)],[(3,i64 (2^i:Nat))],[]⟩) (λi=>n-2^i) (λi=>2^i<n) 0 rfl (by omega) λi hi=> ?_;refine oI λQ1 hQ1=> ?_;by_cases h:2^i<n-2^i
 ·have hp:2^(i+1)=2*2^i:=by rw[Nat.pow_succ];omega
  have h0:=Nat.two_pow_pos i;have e:(2:Int)*((2^i:Nat):Int)=((2^(i+1):Nat):Int):=by rw[hp];omega
  have hlt:((2^i:Nat):Int)<(n:Int)-((2^i:Nat):Int):=by omega
  generalize 2^i=a at*
  simp(maxSteps:=999999) (disch:=first|omega|simp<;>omega|rfl) [fJ,oG,oF,t7,xp,kT,kF,dT,dF,hlt,hQ1];refine⟨i+1,by omega,by omega,?_⟩;rw[e];simp
 have e:=XT h2 hi h;have hlt:¬((2^i:Nat):Int)<(n:Int)-((2^i:Nat):Int):=by omega
 rw[e] at hlt hi;rw[e];simp(maxSteps:=999999) (disch:=first|omega|simp<;>omega|rfl) [fJ,oG,oF,t7,xo,kT,kF,dT,dF,hQ1,hQ0,hlt]
def z6n:aW:=⟨λds=>∃n:Int,0<=n∧n<=4294967296∧ds=[i64 n],λds=>i64 (oN (asI (nth ds 0)).toNat)⟩
theorem z0g{n:Int}(h:0<=n)(h':n<=4294967296):z6n.pre [i64 n]=True:=eq_true ⟨n,h,h',rfl⟩
@[simp] theorem Vp(n:Int):z6n.post [i64 n]=i64 (oN n.toNat):=by simp[z6n]
def hlf:Nat->Nat->Nat|n,0=>n|n,i+1=>hlf n i/2
def cnt:Nat->Nat->Nat|_,0=>0|n,i+1=>cnt n i+hlf n i% 2
theorem MC(n:Nat):∀i,cnt n i+oN (hlf n i)=oN n
 |0=>by simp[cnt,hlf]
 |i+1=>by have:=MC n i;rw[BX (hlf n i)] at this;simp only[cnt,hlf];omega
theorem RY(n:Nat):∀i,hlf n i<=n
 |0=>Nat.le_refl _
 |i+1=>by have:=RY n i;simp only[hlf];omega
theorem Z4(E:Env):∀ds,z6n.pre ds->ds.length=qK.n∧awp E qK.body (qH qK.res (z6n.post ds)) (fP qK.wr ds):=by
 rintro _ ⟨n,h0,h1,rfl⟩;rw[Vp];obtain⟨m,rfl⟩:=Int.eq_ofNat_of_zero_le h0;rw[Int.toNat_natCast];have hm:m<=4294967296:=by omega
 simp(maxSteps:=999999) (disch:=first|omega|simp<;>omega|rfl) [fJ,oG,oF,qK];refine oI λQ0 hQ0=> ?_;refine dH (λi:Nat=>⟨[],[(0,i64 (hlf m i)),(3,i64 (cnt m i))],[]⟩) (λi=>hlf m i) (λ_=>True) 0 rfl trivial λi hi=> ?_;refine oI λQ1 hQ1=> ?_;have hle:=RY m i;have hc:=MC m i;have hc1:=MC m (i+1);have ho:=z9X 33 m (by omega);by_cases h:0<hlf m i
 ·have hlt:(0:Int)<(hlf m i:Int):=by omega
  have et:((hlf m i:Nat):Int).tmod 2=((hlf m i% 2:Nat):Int):=rfl;simp(maxSteps:=999999) (disch:=first|omega|simp<;>omega|rfl) [fJ,oG,oF,um,xS,kT,kF,dT,dF,hlt,hQ1];refine⟨i+1,by simp only[hlf];omega,by simp only[hlf];omega,?_⟩;simp only[et]
  first|(simp only[cnt];omega)|(rw[fJ (by omega) (by omega)];simp only[cnt];omega)
 have hz:hlf m i=0:=by omega
 rw[hz,vk] at hc;simp(maxSteps:=999999) (disch:=first|omega|simp<;>omega|rfl) [fJ,oG,oF,um,xL,kT,kF,dT,dF,hQ1,hQ0,hz];omega
set_option maxHeartbeats 4000000 in
theorem z0u(E:Env)(h214:E.G 214=z6n):∀ds,Lk.pre ds->ds.length=pg.n∧awp E pg.body (qH pg.res (Lk.post ds)) (fP pg.wr ds):=by
 rintro _ ⟨n,nl,l,⟨hn1,hn2⟩,hl,hk,rfl⟩;rw[show Lk.post [pkA n nl l]=bo (okP n l.length) from A5 hl rfl rfl];unfold pkA ur;by_cases h0:0<=n
 ·by_cases h1:n<=4294967296
  ·simp(maxSteps:=999999) (disch:=first|omega|simp<;>omega|rfl) [fJ,oG,oF,pg,h214,z0g h0 h1,dT,dF,h0,h1];simp only[okP,dT h0,dT h1,Bool.true_and];by_cases e:l.length=oN n.toNat
   ·rw[e];simp
   rw[dF e];simp;omega
  simp(maxSteps:=999999) (disch:=first|omega|simp<;>omega|rfl) [fJ,oG,oF,pg,h214,dT,dF,h0,h1];simp only[okP,dF h1];simp
 simp(maxSteps:=999999) (disch:=first|omega|simp<;>omega|rfl) [fJ,oG,oF,pg,h214,dT,dF,h0];simp only[okP,dF h0];simp
set_option maxHeartbeats 4000000 in
theorem z9G(E:Env)(h20:E.G 20=Kq)(h202:E.G 202=Xn)(h211:E.G 211=Lk):∀ds,Mf.pre ds->ds.length=pY.n∧awp E pY.body (qH pY.res (Mf.post ds)) (fP pY.wr ds):=by
 rintro _ ⟨n,nl,l,hn,hl,hlen,rfl⟩;rw[show Mf.post [pkA n nl l]= .tup [.agg (bys (Nr n l).1),i64 (Nr n l).2] from Ef hl rfl rfl,Nr];unfold pkA ur;have v1:=Gv (nl:=nl) hn hl hlen rfl rfl;have v2:=A5 (n:=n) (m:= .plain) (nl:=nl) hl rfl rfl;by_cases ho:okP n l.length=true
 ·rw[if_pos ho];rw[ho] at v2;have hz:(n=0)↔(l.length=0):=by
   simp only[okP,Bool.and_eq_true,decide_eq_true_eq] at ho;obtain⟨⟨g0,_⟩,g2⟩:=ho;constructor
   ·rintro rfl;rw[g2];exact vk
   intro h;have hn0:¬0<n.toNat:=λh'=>by have:=Fx h';omega
   omega
  by_cases h0:n=0
  ·rw[if_pos h0];have hll:l=[]:=List.length_eq_zero_iff.1 (hz.1 h0);subst h0 hll;have hr:root []=bh 1 []:=Ax (by decide);have hp:Kq.pre [i64 1,.sl .plain (some true) 0 []]=True:=Vv (l:=[]) rfl (by simp[Co]);have hq:Kq.post [i64 1,.sl .plain (some true) 0 []]= .agg (bys (bh 1 [])):=eR 1 (some true) 0 [];have hll:=pG 1 []
   replace v1:Lk.pre [.agg [i64 0,.sl .plain nl 0 []]]=True:=v1
   replace v2:Lk.post [.agg [i64 0,.sl .plain nl 0 []]]=bo true:=v2
   simp(maxSteps:=999999) (disch:=first|omega|simp<;>omega|rfl) [fJ,oG,oF,pY,h211,v1,v2,kT,kF,dT,dF,uL,h20,hp,hq,hll,oJ,oM hll,hr]
  rw[if_neg h0];have hpos:0<l.length:=by omega
  have hd:=qL hl;have hat:=zW hl (show l.length-1<l.length by omega);have hal:=sG hl (show l.length-1<l.length by omega);have e1:((l.length:Int)-1).toNat=l.length-1:=by omega
  have b0:((l.length:Int)==0)=false:=beq_false_of_ne (by omega);simp(maxSteps:=999999) (disch:=first|omega|simp<;>omega|rfl) [fJ,oG,oF,pY,h211,v1,v2,kT,kF,dT,dF,h0,uL,zk,e1,hd,hat,hal,oJ,b0];refine⟨⟨by omega,by omega⟩,by omega,?_⟩;refine oI λQ0 hQ0=> ?_;refine dH (λi:Nat=>⟨[(0,.agg [i64 n,.sl .plain nl l.length (bys (dgs l))])],[(1,.bp 1 0),(2,.bp 2 0),(4,.bp 4 0),(5,i64 ((l.length:Int)-2-i))],[(1,some [i64 n,.sl .plain nl l.length (bys (dgs l))]),(2,some (bys (bF 16))),(4,some (bys (FZ l i)))]⟩) (λi=>l.length-i) (λi=>i<=l.length-1) 0 (by simp[FZ]) (Nat.zero_le _) λi hi=> ?_;refine oI λQ1 hQ1=> ?_;have tl:=vC hl hpos i;have tk:=oM tl;by_cases h:i<l.length-1
  ·have hlt:(0:Int)<=(l.length:Int)-2-i:=by omega
   have e2:((l.length:Int)-2-i).toNat=l.length-2-i:=by omega
   have hat2:=zW hl (show l.length-2-i<l.length by omega);have hal2:=sG hl (show l.length-2-i<l.length by omega);have es:bh 2 [ul l (l.length-2-i),FZ l i]=FZ l (i+1):=rfl;have tl1:=vC hl hpos (i+1);simp(maxSteps:=999999) (disch:=first|omega|simp<;>omega|rfl) [fJ,oG,oF,uJ,yT,kT,kF,dT,dF,hlt,e2,hd,hat2,h202,F9 hal2 tl,tl,tk,es,tl1,oJ,hQ1];exact⟨⟨by omega,by omega⟩,by omega,i+1,by omega,by omega,by omega,rfl⟩
  have hlt:¬(0:Int)<=(l.length:Int)-2-i:=by omega
  have hii:i=l.length-1:=by omega
  subst hii;simp(maxSteps:=999999) (disch:=first|omega|simp<;>omega|rfl) [fJ,oG,oF,uJ,yQ,kT,kF,dT,dF,hlt,tl,tk,oJ,hQ1,hQ0];skip
 rw[if_neg ho];have ho':okP n l.length=false:=by simpa using ho
 rw[ho'] at v2;simp(maxSteps:=999999) (disch:=first|omega|simp<;>omega|rfl) [fJ,oG,oF,pY,h211,v1,v2,kT,kF,oJ]
attribute [local simp] Ky fnd wIn bU gv
end Go.Abs