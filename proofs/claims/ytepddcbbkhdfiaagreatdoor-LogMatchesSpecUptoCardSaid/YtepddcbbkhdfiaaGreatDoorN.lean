/- Lemmas: an abstract interpreter, and what the functions compute. -/
import Derived.Test.YtepddcbbkhdfiaaGreatDoorH
import Derived.Test.YtepddcbbkhdfiaaGreatDoorG
import Derived.Test.YtepddcbbkhdfiaaGreatDoorM
set_option linter.unusedSimpArgs false
set_option linter.unusedVariables false
set_option linter.unusedSectionVars false
section
namespace Go.Abs
set_option maxRecDepth 100000
def z8tb:z1c:=
 YR [4,5] [.norm [2,6,32]] [YL 19 3 2 2,Yk 20 349 19,Ym 21 1,Yf 22 1 6,Yl 23 6 22,Yf 24 2 2,Yl 25 2 24,Ym 26 1,Yf 27 0 2,Yf 28 0 27,Yl 29 2 28,Yb 30 .sub 26 29,YF 31 30 25 30,Yk 32 350 31,Yk 33 351 32,Yo 34 (.call 352 [.s 20,.s 21,.c (bo true),.s 23,.s 33] []),Ym 4 34,Yc 5 0] .ret
def z78a:z1c:=
 YR [2,6,7] [.norm [2,6]] [YL 11 3 2 2,Ym 12 1,YK 13 348 11 12,Ym 10 13,Ye 14 0 10,Ye 15 1 10,YH 6 6,Ys 2 6 6 14,Ym 7 15] (Yq (Yr [2,6,7,17] [Ym 16 7,YB 17 .neq 16 0] (Yd 17 (Yr [4,5] [Ym 18 7,Yv 4 16,Ym 5 18] .ret) (Yy [2,6]))) z8tb)
def z2Ca:z1ka:=
 {n:=2,wr:=[],res:=[.t 4,.t 5],body:=YR [2] [.norm [2]] [Yx 2 2 3 0,Yv 4 16,Yc 5 0] (Yq (Yr [2,9] [Ym 8 1,YB 9 .lss 8 1] (Yd 9 (Yr [4,5] [Yv 4 16,Yc 5 11] .ret) (Yy [2]))) z78a)}
def z6Db:z1c:=
 YR [2,4,6] [.norm [2,4,6]] [Yf 21 0 2,Yf 22 0 21,Yl 23 2 22,Yf 24 0 2,Yf 25 1 24,Yl 26 2 25,Yk 27 180 26,Yo 28 (.build [i64 0,.sl .plain none 0 []] [(0,1,.s 23),(1,1,.s 27)]),YH 6 6,Ys 2 6 6 28] (YR [4,7] [.norm [2,4,6,7]] [YL 30 2 6 6,Yf 31 2 2,Yl 32 2 31,Ym 33 1,Yf 34 0 2,Yf 35 0 34,Yl 36 2 35,Yb 37 .sub 33 36,YX 38 30 32 37,YK 39 354 30 38,Ym 29 39,Ye 40 0 29,Ye 41 1 29,YH 7 7,Ys 2 7 7 40,Ym 8 41] (YR [4,5] [.norm [2,4,6,7]] [YL 42 2 7 7,Ys 2 4 4 42,Yc 5 0] .ret))
def z1Ja:z1ka:=
 {n:=2,wr:=[],res:=[.cell 4 (some 2) 4,.t 5],body:=YR [2,4] [.norm [2,4]] [Yx 2 2 3 0,YH 4 4,Yc 5 0] (Yq (YR [2,4,19] [.norm [2,4]] [Ym 9 1,Yf 10 0 2,Yf 11 0 10,Yl 12 2 11,Yb 13 .lss 9 12,Ym 14 13,Yg 14 (Ym 15 1),Yg 14 (YL 16 3 2 2),Yg 14 (Yk 17 349 16),Yg 14 (Yb 18 .gtr 15 17),YP 19 14 18] (Yd 19 (YR [4,5] [.norm [2,4]] [Yo 20 (.build [i64 0,.sl .plain none 0 []] []),Ys 2 4 4 20,Yc 5 11] .ret) (Yy [2,4]))) z6Db)}
def z82a:z1ka:=
 {n:=1,wr:=[],res:=[.cell 2 (some 16) 2],body:=YR [1,2] [.norm [1,2]] [Yx 1 1 3 0,Yz 2 2 16] (YR [2,3] [.norm [1,2,3]] [YL 8 3 1 1,YL 9 3 1 1,Yk 10 349 9,YK 11 348 8 10,Ym 7 11,Ye 12 0 7,Ye 13 1 7,YH 3 3,Ys 2 3 3 12,Ym 4 13] (YR [2,5] [.norm [1,2,3,5]] [YL 15 2 3 3,Yk 16 185 15,Ym 14 16,Ye 17 0 14,Ye 18 1 14,Yz 5 5 16,Ys 16 5 5 17,Ym 6 18] (YR [2] [.norm [1,2,3,5]] [YL 19 16 5 5,Ys 16 2 2 19] .ret)))}
def z90a:z1ka:=
 {n:=1,wr:=[],res:=[.t 2],body:=YR [1] [.norm [1]] [Yx 1 1 3 0,Yc 2 0] (YR [2] [.norm [1]] [Yf 3 0 1,Yf 4 0 3,Yl 5 1 4,Yf 6 2 1,Yl 7 1 6,Yn 8 7,Yb 9 .add 5 8,Ym 2 9] .ret)}
def z8Wa:z1c:=
 YR [2,4] [.norm [2,3,4]] [Yf 36 2 2,Yl 37 2 36,Yk 38 356 37,YL 39 30 3 3,Yo 40 (.buildSl 30 1 [i64 0,i64 0,i64 0,i64 0,i64 0,i64 0,i64 0,i64 0,i64 0,i64 0,st [],.sl .plain none 0 [],u8 0,u8 0,u8 0,u8 0,u8 0,u8 0,u8 0,u8 0,u8 0,u8 0,u8 0,u8 0,u8 0,u8 0,u8 0,u8 0,.sl .plain none 0 [],.sl .plain none 0 []] [(0,30,.s 39)]),Yo 41 (.appendC 30 184 false none none (.s 38) (.s 40)),Yf 42 2 2,YS 2 42 41] (YR [4,5] [.norm [2,3,4]] [YL 43 3 2 2,Ys 3 4 4 43,Yc 5 0] .ret)
def z3Ca:z1ka:=
 {n:=2,wr:=[],res:=[.cell 4 (some 3) 4,.t 5],body:=YR [2,3,4] [.norm [2,3,4]] [Yx 2 2 3 0,Yx 3 3 30 1,Yh 4 4,Yc 5 0] (YR [2,3,4,6] [.norm [2,3,4]] [Yf 7 2 2,Yl 8 2 7,Yn 9 8,Ym 6 9] (Yq (.block 0 (YR [2,3,4,6,10] [.norm [2,3,4]] [YL 11 30 3 3,Yk 12 300 11,YU 13 .not 12,Ym 10 13] (Yd 10 (YR [4,5] [.norm [2,3,4]] [Yo 14 (.build [i64 0,.sl .plain none 0 [],.sl .plain none 0 []] []),Ys 3 4 4 14,Yc 5 1] .ret) (YR [2,3,4,6,15] [.norm [2,3,4]] [YL 16 3 2 2,Yk 17 349 16,YB 18 .geq 17 65536,Ym 15 18] (Yd 15 (YR [4,5] [.norm [2,3,4]] [Yo 19 (.build [i64 0,.sl .plain none 0 [],.sl .plain none 0 []] []),Ys 3 4 4 19,Yc 5 2] .ret) (YR [2,3,4,20] [.norm [2,3,4]] [Ym 21 6,YB 22 .gtr 21 0,Ym 23 22,YG 23 (Yf 24 0 3),YG 23 (Yl 25 3 24),YG 23 (Yf 26 2 2),YG 23 (Yl 27 2 26),YG 23 (Ym 28 6),YG 23 (YB 29 .sub 28 1),YG 23 (Yi 30 30 27 29),YG 23 (Yf 31 0 30),YG 23 (Yj 32 31),YG 23 (Yb 33 .lss 25 32),Yp 34 23 33,Ym 20 34] (Yd 20 (YR [4,5] [.norm [2,3,4]] [Yo 35 (.build [i64 0,.sl .plain none 0 [],.sl .plain none 0 []] []),Ys 3 4 4 35,Yc 5 20] .ret) (Yy [2,3,4])))))))) z8Wa))}
def z4Hb:z1c:=
 YR [4,5] [.norm [2,4,6]] [YL 18 2 6 6,Yf 19 2 2,Yl 20 2 19,Ym 21 1,Yf 22 0 2,Yf 23 0 22,Yl 24 2 23,Yb 25 .sub 21 24,YF 26 30 20 25,Yk 27 358 26,Yo 28 (.build [i64 0,.sl .plain none 0 [],.sl .plain none 0 []] [(0,2,.s 18),(2,1,.s 27)]),Ys 3 4 4 28,Yc 5 0] .ret
def z8Ra:z1ka:=
 {n:=2,wr:=[],res:=[.cell 4 (some 3) 4,.t 5],body:=YR [2,4] [.norm [2,4]] [Yx 2 2 3 0,Yh 4 4,Yc 5 0] (YR [2,4,6,7] [.norm [2,4,6]] [YL 9 3 2 2,Ym 10 1,YK 11 348 9 10,Ym 8 11,Ye 12 0 8,Ye 13 1 8,YH 6 6,Ys 2 6 6 12,Ym 7 13] (Yq (Yr [2,4,6,7,15] [Ym 14 7,YB 15 .neq 14 0] (Yd 15 (YR [4,5] [.norm [2,4,6]] [Yo 16 (.build [i64 0,.sl .plain none 0 [],.sl .plain none 0 []] []),Ym 17 7,Ys 3 4 4 16,Ym 5 17] .ret) (Yy [2,4,6]))) z4Hb))}
def z1Db:z1c:=
 YR [3,6,8,10] [.norm [3,6,8]] [YL 34 3 3 3,Ym 35 2,YK 36 353 34 35,Ym 33 36,Ye 37 0 33,Ye 38 1 33,YM 10 37,Ym 11 38] (YR [3,6,8,10,12] [.norm [3,6,8]] [Yf 39 0 3,Yf 40 0 39,Yl 41 3 40,Ym 12 41] (YR [6,7] [.norm [3,6,8]] [Ym 42 1,Yf 43 2 3,Yl 44 3 43,Ym 45 1,Ym 46 12,Yb 47 .sub 45 46,Ym 48 2,Ym 49 12,Yb 50 .sub 48 49,Yo 51 (.slSl 30 (.s 44) (some (.s 47)) (some (.s 50)) none),Yk 52 358 51,Yf 53 1 8,Yl 54 8 53,Ym 55 10,Yo 56 (.buildSl 1 2 [.sl .plain none 0 [],.sl .plain none 0 []] [(0,1,.s 54),(1,1,.s 55)]),Yo 57 (.build [i64 0,.sl .plain none 0 [],.sl .plain none 0 []] [(0,1,.s 42),(1,1,.s 52),(2,1,.s 56)]),Ys 3 6 6 57,Yc 7 0] .ret))
def z5Fa:z1ka:=
 {n:=3,wr:=[],res:=[.cell 6 (some 3) 6,.t 7],body:=YR [3,6] [.norm [3,6]] [Yx 3 3 3 0,Yh 6 6,Yc 7 0] (YR [3,6,8,9] [.norm [3,6,8]] [YL 14 3 3 3,Ym 15 1,YK 16 348 14 15,Ym 13 16,Ye 17 0 13,Ye 18 1 13,YH 8 8,Ys 2 8 8 17,Ym 9 18] (Yq (YR [3,6,8,31] [.norm [3,6,8]] [Ym 19 9,YB 20 .neq 19 0,Ym 21 20,Yg 21 (Ym 22 1),Yg 21 (Ym 23 2),Yg 21 (Yb 24 .geq 22 23),YP 25 21 24,Ym 26 25,Yg 26 (Ym 27 2),Yg 26 (YL 28 3 3 3),Yg 26 (Yk 29 349 28),Yg 26 (Yb 30 .gtr 27 29),YP 31 26 30] (Yd 31 (YR [6,7] [.norm [3,6,8]] [Yo 32 (.build [i64 0,.sl .plain none 0 [],.sl .plain none 0 []] []),Ys 3 6 6 32,Yc 7 11] .ret) (Yy [3,6,8]))) z1Db))}
def z6Fb:z1c:=
 Yr [6] [Yc 6 0] .ret
def z5Fb:z1c:=
 Yq (YR [3,5,7,11,12] [.norm [3,5,9,11]] [YL 68 2 9 9,Yk 69 185 68,Ym 67 69,Ye 70 0 67,Ye 71 1 67,Yz 11 11 16,Ys 16 11 11 70,Ym 12 71] (YR [88] [.norm [3,5,9,11]] [Ym 72 12,YB 73 .neq 72 0,Ym 74 73,Yg 74 (YL 75 16 11 11),Yg 74 (YL 76 16 3 3),Yg 74 (Yf 77 0 5),Yg 74 (Yl 78 5 77),Yg 74 (Ym 79 7),Yg 74 (Yb 80 .add 78 79),Yg 74 (Ym 81 1),Yg 74 (Yf 82 2 5),Yg 74 (Yl 83 5 82),Yg 74 (YI 84 1 83 1),Yg 74 (Yj 85 84),Yg 74 (YT 86 176 [75,76,80,81,85]),Yg 74 (YU 87 .not 86),YP 88 74 87] (Yd 88 (Yr [6] [Yc 6 8] .ret) (Yy [])))) z6Fb
def z0Gb:z1c:=
 YR [3,5,7,9,10] [.norm [3,5,9]] [Yf 53 0 5,Yl 54 5 53,Yf 55 2 5,Yl 56 5 55,YI 57 1 56 0,Yj 58 57,Yo 59 (.build [i64 0,.sl .plain none 0 []] [(0,1,.s 54),(1,1,.s 58)]),Yf 60 1 5,Yl 61 5 60,YK 62 354 59 61,Ym 52 62,Ye 63 0 52,Ye 64 1 52,YH 9 9,Ys 2 9 9 63,Ym 10 64] (Yq (Yr [3,5,7,9,66] [Ym 65 10,YB 66 .neq 65 0] (Yd 66 (Yr [6] [Yc 6 1] .ret) (Yy [3,5,7,9]))) z5Fb)
def z5Tb:z1ka:=
 {n:=3,wr:=[],res:=[.t 6],body:=YR [3,5] [.norm [3,5]] [Yx 3 3 16 0,Yx 5 5 3 2,Yc 6 0] (YR [3,5,7] [.norm [3,5]] [Yf 13 1 5,Yl 14 5 13,Yn 15 14,Ym 7 15] (Yr [3,5,7,8] [Yo 8 (.mv false (.c (.fn 361 [] [])))] (Yq (YR [3,5,7,51] [.norm [3,5]] [Ym 16 7,YB 17 .eql 16 0,Ym 18 17,Yg 18 (Yf 19 0 5),Yg 18 (Yl 20 5 19),Yg 18 (YB 21 .lss 20 0),YP 22 18 21,Ym 23 22,Yg 23 (Ym 24 1),Yg 23 (Ym 25 7),Yg 23 (Yb 26 .lss 24 25),YP 27 23 26,Ym 28 27,Yg 28 (Yf 29 0 5),Yg 28 (Yl 30 5 29),Yg 28 (Ym 31 1),Yg 28 (Ym 32 7),Yg 28 (Yb 33 .sub 31 32),Yg 28 (Yb 34 .gtr 30 33),YP 35 28 34,Ym 36 35,Yg 36 (Ym 37 1),Yg 36 (YB 38 .gtr 37 65536),YP 39 36 38,Ym 40 39,Yg 40 (Yf 41 2 5),Yg 40 (Yl 42 5 41),Yg 40 (Yn 43 42),Yg 40 (YB 44 .neq 43 2),YP 45 40 44,Ym 46 45,Yg 46 (Yf 47 1 5),Yg 46 (Yl 48 5 47),Yg 46 (Ym 49 8),Yg 46 (YK 50 362 48 49),YP 51 46 50] (Yd 51 (Yr [6] [Yc 6 1] .ret) (Yy [3,5,7]))) z0Gb)))}
def z3dc:z1c:=
 YR [4,5] [.norm [2,3,4]] [Yf 35 0 2,Yl 36 2 35,Yf 37 1 2,Yl 38 2 37,Yf 39 1 3,Yl 40 3 39,Yo 41 (.buildSl 1 2 [.sl .plain none 0 [],.sl .plain none 0 []] [(0,1,.s 38),(1,1,.s 40)]),Yk 42 364 41,Yf 43 2 2,Yl 44 2 43,YI 45 1 44 0,Yj 46 45,Yk 47 180 46,Yf 48 2 3,Yl 49 3 48,YI 50 1 49 1,Yj 51 50,Yk 52 180 51,Yo 53 (.buildSl 1 2 [.sl .plain none 0 [],.sl .plain none 0 []] [(0,1,.s 47),(1,1,.s 52)]),Yo 54 (.build [i64 0,.sl .plain none 0 [],.sl .plain none 0 []] [(0,1,.s 36),(1,1,.s 42),(2,1,.s 53)]),Ys 3 4 4 54,Yc 5 0] .ret
def z0Nc:z1ka:=
 {n:=2,wr:=[],res:=[.cell 4 (some 3) 4,.t 5],body:=YR [2,3,4] [.norm [2,3,4]] [Yx 2 2 3 0,Yx 3 3 3 1,Yh 4 4,Yc 5 0] (Yq (YR [2,3,4,33] [.norm [2,3,4]] [Yf 6 2 2,Yl 7 2 6,Yn 8 7,YB 9 .neq 8 2,Ym 10 9,Yg 10 (Yf 11 2 3),Yg 10 (Yl 12 3 11),Yg 10 (Yn 13 12),Yg 10 (YB 14 .neq 13 2),YP 15 10 14,Ym 16 15,Yg 16 (Yf 17 0 3),Yg 16 (Yl 18 3 17),Yg 16 (Yf 19 0 2),Yg 16 (Yl 20 2 19),Yg 16 (Yb 21 .lss 18 20),YP 22 16 21,Ym 23 22,Yg 23 (Yf 24 0 3),Yg 23 (Yl 25 3 24),Yg 23 (Yf 26 0 2),Yg 23 (Yl 27 2 26),Yg 23 (Yf 28 1 2),Yg 23 (Yl 29 2 28),Yg 23 (Yn 30 29),Yg 23 (Yb 31 .add 27 30),Yg 23 (Yb 32 .neq 25 31),YP 33 23 32] (Yd 33 (YR [4,5] [.norm [2,3,4]] [Yo 34 (.build [i64 0,.sl .plain none 0 [],.sl .plain none 0 []] []),Ys 3 4 4 34,Yc 5 1] .ret) (Yy [2,3,4]))) z3dc)}
def z8Yb:z1c:=
 .region [2,4,5,6,7,8,47,48,49] [.norm [2,4,5,6,8,15]] [Yf 61 1 8,Yo 62 (.load none (some 8) true (.s 61)),YL 63 30 15 15,Yo 64 (.buildSl 30 1 [i64 0,i64 0,i64 0,i64 0,i64 0,i64 0,i64 0,i64 0,i64 0,i64 0,st [],.sl .plain none 0 [],u8 0,u8 0,u8 0,u8 0,u8 0,u8 0,u8 0,u8 0,u8 0,u8 0,u8 0,u8 0,u8 0,u8 0,u8 0,u8 0,.sl .plain none 0 [],.sl .plain none 0 []] [(0,30,.s 63)]),YN 65 30 184 62 64,Yf 66 1 8,YO (.store none 8 true (.s 66) (.s 65))]
def z1Yb:z1c:=
 Yq (.block 1 (YR [2,4,5,6,7,8,14,47,48,49] [.norm [2,4,5,6,8]] [Yi 51 1 47 49,Yj 52 51,Ym 14 52] (YR [2,4,5,6,7,8,15,16,47,48,49] [.norm [2,4,5,6,8,15]] [Ym 54 14,Yk 55 322 54,Ym 53 55,Ye 56 0 53,Ye 57 1 53,Yo 15 (.alloc 15 (List.replicate 10 (i64 0)++[st []]++[.sl .plain none 0 []]++bys (z5j 16)++[.sl (.own 24) none 0 []]++[.sl (.own 1) none 0 []])),Ys 30 15 15 56,Ym 16 57] (Yq (YR [2,4,5,6,7,8,15,47,48,49,60] [.norm [2,4,5,6,8,15]] [Yl 58 6 6,Ym 59 16,Yo 60 (.callm 366 (some (.s 58)) [.s 59] [(1,5)] [])] (Yd 60 (YY [2,4,5,6,7,8]) (Yy [2,4,5,6,7,8,15,47,48,49]))) z8Yb)))) (.region [2,4,5,6,7,8,47,48,49] [.drop [15]] [YB 67 .add 49 1,Ym 49 67])
def z0Yb:z1c:=
 Yr [2,4,5,6,7,8,47,48,49,50] [Yb 50 .lss 49 48] (Yq (Yd 50 (Yy [2,4,5,6,7,8,47,48,49]) (YY [2,4,5,6,7,8])) z1Yb)
def z7Xb:z1c:=
 Yq (.block 3 (YR [2,4,5,6,7,8,18,19,20,84] [.norm [2,4,5,6,8,15]] [Yl 87 4 4,Yk 88 58 87,Ym 86 88,Ye 89 0 86,Ye 90 1 86,Ye 91 2 86,YM 18 89,Ym 19 90,Ym 20 91] (Yr [2,4,5,6,7,8,18,84,95] [Ym 92 7,Ym 93 19,Ym 94 20,Yo 95 (.callw 367 (some (.s 92)) [.s 93,.s 94] [(2,6),(3,4),(400009,5)] [])] (Yd 95 (.region [2,4,5,6,7,8,84] [.norm [2,4,5,6,8,15]] [Yf 96 2 8,Yo 97 (.load none (some 8) true (.s 96)),YM 98 18,Yo 99 (.buildSl 1 1 [.sl .plain none 0 []] [(0,1,.s 98)]),YN 100 1 24 97 99,Yf 101 2 8,YO (.store none 8 true (.s 101) (.s 100))]) (Yy [2,4,5,6,7,8,84]))))) (Yu [2,4,5,6,7,8,84] [YB 102 .add 84 1,Ym 84 102])
def z9Yb:z1c:=
 Yr [2,4,5,6,7,8,84,85] [YB 85 .lss 84 2] (Yq (Yd 85 (Yy [2,4,5,6,7,8,84]) (.ghost (.keep [2,4,5,6,8]) (.exit 2))) z7Xb)
def z5Yb:z1c:=
 .ghost (.reB 8 1 none) (.ghost (.reB 8 2 none) (YR [2,3] [.norm [2,4,5,6,8,15]] [YL 112 3 8 8,Ys 3 2 2 112,Yc 3 0] .ret))
def z10b:z1c:=
 Yq (YR [2,5,8,109] [.norm [2,4,5,6,8,15]] [Yl 108 5 5,YB 109 .neq 108 0] (Yd 109 (YR [2,3] [.norm [2,4,5,6,8,15]] [Yo 110 (.build [i64 0,.sl .plain none 0 [],.sl .plain none 0 []] []),Yl 111 5 5,Ys 3 2 2 110,Ym 3 111] .ret) (Yy [2,8]))) z5Yb
def z92b:z1c:=
 Yq (YR [2,5,6,8,105] [.norm [2,4,5,6,8,15]] [Yl 103 4 4,Yn 104 103,YB 105 .gtr 104 0] (Yd 105 (.region [2,5,8] [.norm [2,4,5,6,8,15]] [Yl 106 6 6,Yo 107 (.callm 366 (some (.s 106)) [.c (i64 6)] [(1,5)] [])]) (Yy [2,5,8]))) z10b
def z00b:z1c:=
 Yq (Yr [2,4,5,6,7,8,84] [Yc 84 0] (.block 2 (.loop z9Yb))) z92b
def z40b:z1c:=
 YR [2,4,5,6,7,8,10,11,17] [.norm [2,4,5,6,8,15]] [Yl 69 4 4,Yk 70 45 69,Ym 68 70,Ye 71 0 68,Ye 72 1 68,Ye 73 2 68,Ym 17 71,Ym 10 72,Ym 11 73] (Yq (Yr [2,4,5,6,7,8,81] [Ym 74 7,Ym 75 10,Ym 76 11,Yo 77 (.callw 367 (some (.s 74)) [.s 75,.s 76] [(2,6),(3,4),(400009,5)] []),Ym 78 77,YG 78 (Ym 79 17),YG 78 (YB 80 .neq 79 2),Yp 81 78 80] (Yd 81 (.region [2,4,5,6,7,8] [.norm [2,4,5,6,8,15]] [Yl 82 6 6,Yo 83 (.callm 366 (some (.s 82)) [.c (i64 6)] [(1,5)] [])]) (Yy [2,4,5,6,7,8]))) z00b)
def z6Xb:z1c:=
 YR [2,4,5,6,7,8,10,11,12] [.norm [2,4,5,6,8]] [Yl 38 4 4,Yk 39 55 38,Ym 37 39,Ye 40 0 37,Ye 41 1 37,Ye 42 2 37,YM 12 40,Ym 10 41,Ym 11 42] (Yr [2,4,5,6,7,8,12] [Ym 43 7,Ym 44 10,Ym 45 11,Yo 46 (.callw 367 (some (.s 43)) [.s 44,.s 45] [(2,6),(3,4),(400009,5)] [])] (Yq (Yr [2,4,5,6,7,8,47,48,49] [YM 47 12,Yn 48 47,Yc 49 0] (.block 0 (.loop z0Yb))) z40b))
def z9gc:z1ka:=
 {n:=1,wr:=[],res:=[.cell 2 (some 3) 2,.t 3],body:=YR [2] [.norm [2]] [Yo 2 (.alloc 2 [i64 0,.sl (.own 30) none 0 [],.sl (.own 1) none 0 []]),Yc 3 0] (YR [2,4,5] [.norm [2,4,5]] [Ym 21 0,Yo 22 (.toBytes (.s 21)),Yo 4 (.alloc 4 [.sl (.own 1) none 0 []]),Yo 5 (.alloc 5 [i64 0]),YO (.store none 4 true (.s 4) (.s 22)),YO (.store none 5 false (.s 5) (.c (i64 0)))] (YR [2,4,5,6] [.norm [2,4,5,6]] [Yo 23 (.mkfn 366 [] [.s 5]),Yo 6 (.alloc 6 [.lit .nilFunc]),YS 6 6 23] (Yr [2,4,5,6,7] [Yo 24 (.mkfn 367 [] [.s 6,.s 4]),Ym 7 24] (YR [2,4,5,6,7,8] [.norm [2,4,5,6,8]] [Yo 8 (.alloc 8 [i64 0,.sl (.own 30) none 0 [],.sl (.own 1) none 0 []])] (YR [2,4,5,6,7,8,9,10,11] [.norm [2,4,5,6,8]] [Yl 26 4 4,Yk 27 45 26,Ym 25 27,Ye 28 0 25,Ye 29 1 25,Ye 30 2 25,Ym 9 28,Ym 10 29,Ym 11 30] (Yq (Yr [2,4,5,6,7,8,9,34] [Ym 31 7,Ym 32 10,Ym 33 11,Yo 34 (.callw 367 (some (.s 31)) [.s 32,.s 33] [(2,6),(3,4),(400009,5)] [])] (Yd 34 (.region [2,4,5,6,7,8] [.norm [2,4,5,6,8]] [Ym 35 9,Yf 36 0 8,YS 8 36 35]) (Yy [2,4,5,6,7,8]))) z6Xb))))))}
def z3Zb:z1c:=
 Yq (.block 1 (YR [1,3,5,10,11,12] [.norm [1,5]] [Yi 14 30 10 12,YJ 15 30 14,Yo 5 (.alloc 5 (List.replicate 10 (i64 0)++[st []]++[.sl .plain none 0 []]++bys (z5j 16)++[.sl (.own 24) none 0 []]++[.sl (.own 1) none 0 []])),Ys 30 5 5 15] (.region [1,3,10,11,12] [.norm [1,5]] [YM 16 3,YL 17 30 5 5,Yk 18 302 17,Yo 19 (.buildSl 1 1 [st []] [(0,1,.s 18)]),YN 20 1 16 16 19,YM 3 20]))) (.region [1,3,10,11,12] [.drop [5]] [YB 21 .add 12 1,Ym 12 21])
def z4Zb:z1c:=
 Yr [1,3,10,11,12,13] [Yb 13 .lss 12 11] (Yq (Yd 13 (Yy [1,3,10,11,12]) (YY [1,3])) z3Zb)
def z5Zb:z1c:=
 Yq (.block 3 (YR [6,8,34,35,36] [.norm [1,5]] [Yi 38 1 34 36,Yj 39 38,YM 8 39] (Yu [6,34,35,36] [YM 40 6,YM 41 8,Yk 42 43 41,YN 43 1 1 40 42,YM 6 43]))) (Yu [6,34,35,36] [YB 44 .add 36 1,Ym 36 44])
def z01b:z1c:=
 Yr [6,34,35,36,37] [Yb 37 .lss 36 35] (Yq (Yd 37 (Yy [6,34,35,36]) (.ghost (.keep [6]) (.exit 2))) z5Zb)
def z31b:z1c:=
 Yr [2] [YM 45 6,Yo 46 (.toStr none (.s 45)),Ym 2 46] .ret
def z52b:z1c:=
 YR [1,6] [.norm [1,5]] [Yf 22 0 1,Yl 23 1 22,Yk 24 12 23,Ym 25 3,Yk 26 41 25,Yf 27 2 1,Yl 28 1 27,Yn 29 28,Yk 30 12 29,Yo 31 (.buildSl 1 3 [.sl .plain none 0 [],.sl .plain none 0 [],.sl .plain none 0 []] [(0,1,.s 24),(1,1,.s 26),(2,1,.s 30)]),Yk 32 129 31,YM 6 32] (Yq (YR [6,34,35,36] [.norm [1,5]] [Yf 33 2 1,Yl 34 1 33,Yn 35 34,Yc 36 0] (.block 2 (.loop z01b))) z31b)
def z9lc:z1ka:=
 {n:=1,wr:=[],res:=[.t 2],body:=YR [1] [.norm [1]] [Yx 1 1 3 0,Yo 2 (.mv false (.c (st [])))] (Yr [1,3] [Yv 3 1] (Yq (YR [1,3,10,11,12] [.norm [1]] [Yf 9 1 1,Yl 10 1 9,Yn 11 10,Yc 12 0] (.block 0 (.loop z4Zb))) z52b))}
def z8kb:z1c:=
 .block 1 (Yu [11] [Ym 28 11,YB 29 .mul 28 2,Ym 11 29])
def z2kb:z1c:=
 Yq (Yr [11,27] [Ym 24 11,Yo 25 (.bin .mul (.c (i64 2)) (.s 24)),Ym 26 0,Yb 27 .lss 25 26] (Yd 27 (Yy [11]) (YY [11]))) z8kb
def z2Db:z1c:=
 Yr [10] [Ym 48 11,Ym 49 1,Ym 50 2,Ym 51 3,Ym 52 4,Ym 53 11,Ym 54 1,Yb 55 .sub 53 54,YX 56 16 52 55,YT 57 352 [48,49,50,51,56],Ym 58 4,Ym 59 11,Ym 60 1,Yb 61 .sub 59 60,YF 62 16 58 61,Yk 63 168 62,YQ 64 63,YN 65 16 16 57 64,YM 10 65] .ret
def z3kb:z1c:=
 Yq (Yr [11,32] [Ym 30 1,Ym 31 11,Yb 32 .gtr 30 31] (Yd 32 (Yr [10] [Ym 33 0,Ym 34 11,Yb 35 .sub 33 34,Ym 36 1,Ym 37 11,Yb 38 .sub 36 37,Ym 39 3,Yo 40 (.slSl 16 (.s 39) (some (.c (i64 1))) none none),Ym 41 4,Yo 42 (.call 352 [.s 35,.s 38,.c (bo false),.s 40,.s 41] []),Ym 43 3,YI 44 16 43 0,YJ 45 16 44,YQ 46 45,YN 47 16 16 42 46,YM 10 47] .ret) (Yy [11]))) z2Db
def z6Cb:z1c:=
 Yr [11] [Yc 11 1] (Yq (.block 0 (.loop z2kb)) z3kb)
def z4mb:z1c:=
 Yq (Yr [20] [Ym 18 1,Ym 19 0,Yb 20 .eql 18 19] (Yd 20 (Yr [10] [Ym 21 3,Yk 22 370 21,YQ 23 22,YM 10 23] .ret) (Yy []))) z6Cb
def z0ua:z1ka:=
 {n:=5,wr:=[],res:=[.t 10],body:=Yr [] [Yv 10 16] (Yq (Yr [17] [Ym 12 1,Ym 13 0,Yb 14 .eql 12 13,Ym 15 14,YG 15 (Ym 16 2),Yp 17 15 16] (Yd 17 (Yr [10] [Yv 10 16] .ret) (Yy []))) z4mb)}
def z3ra:z1ka:=
 {n:=1,wr:=[],res:=[.t 2],body:=Yr [] [Yv 2 16] (Yr [2] [Ym 3 0,Yo 4 (.call 371 [.c (.lit (.slice none 0 0)),.s 3] []),YM 2 4] .ret)}
def z0Ia:z1ka:=
 {n:=1,wr:=[],res:=[.t 2],body:=YR [1] [.norm [1]] [Yo 1 (.box 1 none false (.s 0)),Yo 2 (.mv false (.c (.lit .nilFunc)))] (YR [2] [.norm [1],.freeze [1]] [Yo 3 (.mkfn 372 [] [.s 1]),Ym 2 3] .ret)}
def z3Db:z1c:=
 .region [2,4,5,6] [.norm [2,4,5,6,10]] [Yz 6 6 16,Ys 16 6 6 11]
def z9Cb:z1c:=
 .block 1 (YR [2,4,5,7,8] [.norm [2,4,5,6,7,10]] [YL 13 2 2 2,YL 14 16 6 6,YK 15 182 13 14,Ym 12 15,Ye 16 0 12,Ye 17 1 12,YH 7 7,Ys 2 7 7 16,Ym 8 17] (Yq (Yr [2,4,5,7,8,19] [Ym 18 8,YB 19 .neq 18 0] (Yd 19 (YR [2,4,5] [.norm [2,4,5,6,7,10]] [Yo 20 (.build [i64 0,.sl .plain none 0 []] []),Ym 21 8,Ys 2 4 4 20,YS 5 5 21] (.ghost (.keep [2,4,5]) .ret)) (Yy [2,4,5,7]))) (.region [2,4,5] [.norm [2,4,5,6,7,10],.drop [6,7]] [YL 22 2 7 7,Ys 2 2 2 22])))
def z8Cb:z1c:=
 YR [4,5] [.norm [2,4,5,6,7,10]] [YL 23 2 2 2,Ys 2 4 4 23,YO (.store none 5 false (.s 5) (.c (i64 0)))] .ret
def z1wa:z1ka:=
 {n:=2,wr:=[],res:=[.cell 4 (some 2) 4,.cell 5 none 5],body:=YR [2,4,5] [.norm [2,4,5]] [Yx 2 2 2 0,YH 4 4,Yo 5 (.alloc 5 [i64 0])] (Yq (YR [2,4,5,10] [.norm [2,4,5,10]] [Ym 9 1,Yk 10 350 9] (.block 0 (.range 372 (.s 10) [2,4,5] [11] z3Db z9Cb))) z8Cb)}
def z0xa:z1ka:=
 {n:=1,wr:=[],res:=[.t 2],body:=Yr [] [Yv 2 30] (Yr [2] [Ym 3 0,Ym 4 0,Yn 5 4,Ym 6 0,Yn 7 6,Yo 8 (.slSl 30 (.s 3) none (some (.s 5)) (some (.s 7))),YM 2 8] .ret)}
def z6Ua:z1c:=
 Yr [2] [Yo 5 (.buildSl 30 0 [] []),Ym 6 0,YN 7 30 184 5 6,YM 2 7] .ret
def z1ta:z1ka:=
 {n:=1,wr:=[],res:=[.t 2],body:=Yr [] [Yv 2 30] (Yq (Yr [4] [Ym 3 0,Yo 4 (.eqnil false (.s 3) (.c (.lit (.slice none 0 0))))] (Yd 4 (Yr [2] [Yv 2 30] .ret) (Yy []))) z6Ua)}
def z7Jb:z1ka:=
 {n:=1,wr:=[],res:=[.t 2],body:=YR [1] [.norm [1]] [Yx 1 1 30 0,Yw 2 false] (YR [2] [.norm [1]] [YL 3 30 1 1,Yk 4 300 3,YU 5 .not 4,Ym 2 5] .ret)}
def z4Ha:z1ka:=
 {n:=2,wr:=[],res:=[.t 4],body:=Yr [] [Yw 4 false] (Yr [4] [Ym 5 0,Ym 6 1,YK 7 373 5 6,YB 8 .geq 7 0,Ym 4 8] .ret)}
def z2qb:z1c:=
 Yq (.block 1 (Yr [3,5,9,10,11] [Yi 13 1 9 11,Yj 14 13,YM 5 14] (Yr [3,9,10,11] [Ym 15 3,YM 16 5,Yn 17 16,Yb 18 .add 15 17,Ym 3 18] (Yr [3,9,10,11,20] [Ym 19 3,YB 20 .lss 19 0] (Yd 20 (Yu [3,9,10,11] [Yo 21 .unsup,YO .unsup]) (Yy [3,9,10,11])))))) (Yu [3,9,10,11] [YB 22 .add 11 1,Ym 11 22])
def z8nb:z1c:=
 Yr [3,9,10,11,12] [Yb 12 .lss 11 10] (Yq (Yd 12 (Yy [3,9,10,11]) (YY [3])) z2qb)
def z6pb:z1c:=
 Yq (.block 3 (Yr [6,8,25,26,27] [Yi 29 1 25 27,Yj 30 29,YM 8 30] (Yu [6,25,26,27] [YM 31 6,YM 32 8,YN 33 30 184 31 32,YM 6 33]))) (Yu [6,25,26,27] [YB 34 .add 27 1,Ym 27 34])
def z1rb:z1c:=
 Yr [6,25,26,27,28] [Yb 28 .lss 27 26] (Yq (Yd 28 (Yy [6,25,26,27]) (.ghost (.keep [6]) (.exit 2))) z6pb)
def z6nb:z1c:=
 Yr [2] [YM 35 6,YM 2 35] .ret
def z6ob:z1c:=
 Yr [6] [Ym 23 3,Yo 24 (.call 374 [.c (.lit (.slice none 0 0)),.s 23] []),YM 6 24] (Yq (Yr [6,25,26,27] [Ym 25 0,Yn 26 25,Yc 27 0] (.block 2 (.loop z1rb))) z6nb)
def z0wb:z1ka:=
 {n:=1,wr:=[],res:=[.t 2],body:=Yr [] [Yv 2 30] (Yr [3] [Yc 3 0] (Yq (Yr [3,9,10,11] [Ym 9 0,Yn 10 9,Yc 11 0] (.block 0 (.loop z8nb))) z6ob))}
def z0Pb:z1c:=
 YR [1,3] [.norm [1]] [Yl 7 1 1,YB 8 .neq 7 0,Ym 3 8] .ret
def z53a:z1ka:=
 {n:=2,wr:=[],res:=[.t 3],body:=Yr [0,1] [Yw 3 false] (Yq (YR [0,1,5] [.norm [1]] [Yl 4 1 1,YB 5 .eql 4 0] (Yd 5 (.region [1] [.norm [1]] [Ym 6 0,YS 1 1 6]) (Yy [1]))) z0Pb)}
def z73a:z1ka:=
 {n:=4,wr:=[],res:=[.t 6],body:=Yr [0,1,2,3] [Yw 6 false] (Yq (YR [0,2,3,9] [.norm [2,3,400009]] [Yl 7 2 2,Ym 8 1,Yo 9 (.callm 366 (some (.s 7)) [.s 8] [(1,400009)] [])] (Yd 9 (Yr [2,3,6] [Yw 6 false] .ret) (Yy [0,2,3]))) (YR [2,3] [.norm [2,3,400009]] [Yl 10 3 3,Ym 11 0,YF 12 1 10 11,YS 3 3 12] (Yr [2,3,6] [Yw 6 true] .ret)))}
def z5Hb:z1c:=
 .region [2,3,5] [.norm [2,3,5]] [Yz 5 5 16,Ys 16 5 5 19]
def z0Kb:z1c:=
 .block 1 (.region [2,3] [.norm [2,3,5],.drop [5]] [Yo 20 (.slArr 16 1 (.s 5) none none none),Yo 21 (.toStr (some 5) (.s 20)),Yo 22 (.slArr 16 1 (.s 3) none none none),Yo 23 (.toStr (some 3) (.s 22)),Yo 24 (.buildSl 1 2 [st [],st []] [(0,1,.s 21),(1,1,.s 23)]),Yo 25 (.call 8 [.c (i64 2),.s 24] []),Ys 16 3 3 25])
def z2Jb:z1c:=
 YR [2] [.norm [2,3,5]] [YL 26 16 3 3,Ys 16 2 2 26] .ret
def z4za:z1ka:=
 {n:=1,wr:=[],res:=[.cell 2 (some 16) 2],body:=YR [2] [.norm [2]] [Yz 2 2 16] (YR [2,3] [.norm [2,3]] [Ym 6 0,Ym 7 0,Yn 8 7,YB 9 .sub 8 1,Yi 10 16 6 9,YJ 11 16 10,Yz 3 3 16,Ys 16 3 3 11] (Yq (YR [2,3,17] [.norm [2,3,17],.freeze [17]] [Ym 12 0,Ym 13 0,Yn 14 13,YB 15 .sub 14 1,YX 16 16 12 15,Yo 17 (.callm 183 none [.s 16] [] [(1,17)])] (.block 0 (.range 184 (.s 17) [2,3] [18,19] z5Hb z0Kb))) z2Jb))}
def z4Da:z1c:=
 .region [2,5] [.norm [2,5]] [Yz 5 5 16,Ys 16 5 5 7]
def z0Da:z1c:=
 .block 1 (.region [2] [.norm [2,5],.drop [5]] [Yo 8 (.load none (some 2) true (.s 2)),YL 9 16 5 5,YQ 10 9,YN 11 16 16 8 10,YO (.store none 2 true (.s 2) (.s 11))])
def z3Da:z1c:=
 YR [4] [.norm [2,5]] [Yo 12 (.load none (some 2) true (.s 2)),YM 4 12] .ret
def z0qa:z1ka:=
 {n:=2,wr:=[],res:=[.t 4],body:=YR [2] [.norm [2],.reB 2 0 (some 16),.norm [2]] [Yo 2 (.box 2 none false (.s 0)),Yv 4 16] (Yq (Yr [2,6] [Ym 6 1] (.block 0 (.range 372 (.s 6) [2] [7] z4Da z0Da))) z3Da)}
def z6Xa:z1c:=
 Yd 8 (Yy [6,7]) (YY [])
def z7hb:z1c:=
 .region [4,6,7] [.norm [4]] [Yi 9 30 5 7,YJ 10 30 9,Yo 4 (.alloc 4 (List.replicate 10 (i64 0)++[st []]++[.sl .plain none 0 []]++bys (z5j 16)++[.sl (.own 24) none 0 []]++[.sl (.own 1) none 0 []])),Ys 30 4 4 10]
def z0jb:z1c:=
 Yd 15 .ret (Yy [6,7])
def z0hb:z66a:=
 .plain z0jb
def z9hb:z66a:=
 .seq (.yield [6,7,15] [.norm [4]] [Ym 11 0,YL 12 30 4 4,Yk 13 303 12] (some 14) 11 [.s 13] [YU 15 .not 14]) z0hb
def z1hb:z66a:=
 .seq (.block 1 (.seq (.plain z7hb) z9hb)) (.plain (.region [6,7] [.drop [4]] [YB 16 .add 7 1,Ym 7 16]))
def z1Wa:z66a:=
 .seq (.plain z6Xa) z1hb
def z2jb:z66a:=
 .seq (.plain (.region [6,7,8] [] [Yb 8 .lss 7 6])) z1Wa
def z9gb:z66a:=
 .block 0 (.loop z2jb)
def z5ta:z1de:=
 {nx:=0,ny:=1,body:=.seq (.lean 5 1 [6,7] [] [Yn 6 5,Yc 7 0]) z9gb}
def z7Ha:z1c:=
 Yq (.block 1 (Yr [5,7,8] [Ym 10 8,Ym 5 10] (Yr [5,7,8,16] [Ym 11 1,Ym 12 0,Ym 13 5,Yi 14 30 12 13,YJ 15 30 14,Yo 16 (.callv 361 (.s 11) [.s 15] [])] (Yd 16 (Yr [4] [Ym 17 5,Ym 4 17] .ret) (Yy [7,8]))))) (Yu [7,8] [YB 18 .add 8 1,Ym 8 18])
def z5Ha:z1c:=
 Yr [7,8,9] [Yb 9 .lss 8 7] (Yq (Yd 9 (Yy [7,8]) (YY [])) z7Ha)
def z6Ha:z1c:=
 Yr [4] [Yc 4 (-1)] .ret
def z2La:z1ka:=
 {n:=2,wr:=[],res:=[.t 4],body:=Yr [] [Yc 4 0] (Yq (Yr [7,8] [Ym 6 0,Yn 7 6,Yc 8 0] (.block 0 (.loop z5Ha))) z6Ha)}
end Go.Abs
end

section
namespace Go.Abs
set_option maxRecDepth 100000
set_option maxHeartbeats 4000000
theorem z65d (E:Env):∀ds,z7mb.pre ds→ds.length=z90a.n∧awp E z90a.body (z6va z90a.res (z7mb.post ds)) (z4H z90a.wr ds):=by
 rintro _ ⟨nr,ne,l,h,rfl⟩
 rw[z1Oa h]
 have hs:=h.s
 simp(maxSteps:=1000000) (disch:=first|omega|simp;done|simp;omega) [z7G,z90a,z4Ca,z5Aa,z5sa]
 simp[z0n.len]
theorem z7Id (E:Env):∀ds,z1jc.pre ds→ds.length=z0xa.n∧awp E z0xa.body (z6va z0xa.res (z1jc.post ds)) (z4H z0xa.wr ds):=by
 rintro _ ⟨nl,l,h,hl,rfl⟩
 have hlen:=z4ta h
 have ht:List.take (l.length*30) (z6ra l)=z6ra l:=List.take_of_length_le (by omega)
 simp(maxSteps:=1000000) (disch:=first|omega|simp;done|simp;omega) [z7G,z0xa,z1jc,z5sa,nth,ht]
def z8gd:z1f:=⟨fun ds=>z2Cb.pre ds∧∀d,ds[0]? =some d→z1dc d,z2Cb.post⟩
theorem z3Fd (E:Env):∀ds,z8gd.pre ds→ds.length=z1ta.n∧awp E z1ta.body (z6va z1ta.res (z8gd.post ds)) (z4H z1ta.wr ds):=by
 rintro _ ⟨⟨nl,n,cs,hlen,hc,hn,rfl⟩,hk⟩
 have hk:=hk _ rfl
 rw[show z8gd.post [.sl .plain nl n cs]= .sl (.own 30) none n cs from rfl]
 match nl,hk with
 |some true,hk=>
  obtain⟨h0,h1⟩:=hk
  subst h0 h1
  simp(maxSteps:=1000000) (disch:=first|omega|simp;done|simp;omega) [z7G,z1ta,kT]
 |some false,_=>
  simp(maxSteps:=1000000) (disch:=first|omega|simp;done|simp;omega) [z7G,z1ta,z6Ua,kF,hlen]
  exact⟨by omega,by omega,hc⟩
theorem z3id:∀ds d b,z2Cb.pre ds→ds[0]? =some d→z2Cb.pre (ds.set 0 (z2fc b d))∧z2Cb.post (ds.set 0 (z2fc b d))=z2Cb.post ds:=by
 rintro _ d b ⟨nl,n,cs,hl,hc,hn,rfl⟩ hd
 simp only[List.getElem?_cons_zero,Option.some.injEq] at hd
 subst hd
 cases nl with
 |none=>exact⟨⟨some b,n,cs,hl,hc,hn,rfl⟩,rfl⟩
 |some c=>exact⟨⟨some c,n,cs,hl,hc,hn,rfl⟩,rfl⟩
end Go.Abs
end

section
namespace Go.Abs
set_option maxRecDepth 100000
set_option maxHeartbeats 4000000
def z2Nc:z1f:=⟨fun ds=>∃(l:z0n) (x:z2n),l.ok∧l.ents.length<1000∧l.len<62000∧x.small∧ds=[z4Ca none none l,.agg (z7va none none none x)],
 fun ds=> .tup [z4Ca none none (z9Kb (z5Cb (nth ds 0)) (z2gc (gCs (nth ds 1)))).1,i64 ((z9Kb (z5Cb (nth ds 0)) (z2gc (gCs (nth ds 1)))).2:Int)]⟩
theorem z9Fd {l:z0n} {x:z2n} (h:l.ok) (h1:l.ents.length<1000) (h2:l.len<62000) (hx:x.small):z2Nc.pre [z4Ca none none l,.agg (z7va none none none x)]=True:=eq_true ⟨l,x,h,h1,h2,hx,rfl⟩
theorem z1fc {l:z0n} {x:z2n} (h:l.ok) (hx:x.small):z2Nc.post [z4Ca none none l,.agg (z7va none none none x)]= .tup [z4Ca none none (z9Kb l x).1,i64 ((z9Kb l x).2:Int)]:=by
 show z0a.tup [z4Ca none none (z9Kb (z5Cb (z4Ca none none l)) (z2gc (z7va none none none x))).1,i64 ((z9Kb (z5Cb (z4Ca none none l)) (z2gc (z7va none none none x))).2:Int)]=_
 rw[z7Gb h,z3wc hx]
theorem z2Ic {a b:List z0a} (ha:a.length=30) (hb:b.length=30):splice a 0 b=b:=by simp[splice,ha,hb]
theorem z4dc (nc nm ng:Option Bool) (x:z2n):∀c∈z7va nc nm ng x,z0b c=true∧z8a c:=by
 simp[z7va,z49a,or_imp,forall_and,z0od]
theorem z3eb (l:List z2n):∀c∈z6ra l,z0b c=true∧z8a c:=fun c hc=>by
 obtain⟨x,_,h⟩:=List.mem_flatMap.1 hc
 exact z4dc _ _ _ x c h
theorem z1xc {l:List z2n} (h:z2vb l) {i:Nat} (hi:i<l.length):hdA ((z6ra l).drop (i*30))=i64 l[i].time:=by
 have:=z8Ab h hi
 have e:=congrArg hdA this
 rw[z8jd] at e
 rw[←e]
 cases(z6ra l).drop (i*30)<;>rfl
theorem z5Vd (E:Env) (h300:E.G 300=z6cc) (h349:E.G 349=z7mb) (h356:E.G 356=z1jc):∀ds,z2Nc.pre ds→ds.length=z3Ca.n∧awp E z3Ca.body (z6va z3Ca.res (z2Nc.post ds)) (z4H z3Ca.wr ds):=by
 rintro _ ⟨l,x,h,h1,h2,hx,rfl⟩
 rw[z1fc h hx]
 have hs:=h.s
 have hlen:=z4ta h.e
 have hxl:=z5vb hx
 have htk:List.take 30 (z7va none none none x)=z7va none none none x:=List.take_of_length_le (by omega)
 have hx0:=z8jd none none none x
 have p1:z6cc.pre [.agg (z7va none none none x)]=True:=z2uc hx
 have p2:z6cc.post [.agg (z7va none none none x)]=bo (okE x):=z0Hb hx
 have p3:z7mb.pre [z4Ca none none l]=True:=z3fb h
 have p4:z7mb.post [z4Ca none none l]=i64 (l.len:Int):=z1Oa h
 have p5:z1jc.pre [z5sa none l.ents]=True:=eq_true ⟨none,l.ents,h.e,by have:=h.n;omega,rfl⟩
 have p6:z1jc.post [z5sa none l.ents]= .sl .clip none l.ents.length (z6ra l.ents):=rfl
 have hll:l.len=l.size+l.ents.length:=rfl
 have sp:=z2Ic (a:=[i64 0,i64 0,i64 0,i64 0,i64 0,i64 0,i64 0,i64 0,i64 0,i64 0,st [],.sl .plain none 0 [],u8 0,u8 0,u8 0,u8 0,u8 0,u8 0,u8 0,u8 0,u8 0,u8 0,u8 0,u8 0,u8 0,u8 0,u8 0,u8 0,.sl .plain none 0 [],.sl .plain none 0 []]) rfl hxl
 have em:=z4dc none none none x
 have ex:z6ra (l.ents++[x])=z6ra l.ents++z7va none none none x:=by rw[z04b,z8Wb]
 have dM:decide ((65536:Int)≤(l.len:Int))=false:=decide_eq_false (by omega)
 simp only[z4Ca,z5Aa,z5sa] at p3 p4 p5 p6⊢
 cases hok:okE x with
 |false=>
  rw[hok] at p2
  have hr:z9Kb l x=(⟨0,[],[]⟩,1):=by rw[z9Kb,if_pos hok]
  rw[hr]
  simp(maxSteps:=1000000) (disch:=first|omega|simp;done|simp;omega) [z7G,z3Ca,h300,p1,p2,hxl,htk,kT,kF,z4wa,z2wa,z6ra]
 |true=>
  rw[hok] at p2
  by_cases h0:l.ents.length=0
  ·have d0:decide (0<l.ents.length)=false:=decide_eq_false (by omega)
   have e0:l.ents=[]:=List.length_eq_zero_iff.1 h0
   have hi:(if l.ents=[] then z5r.own 30 else z5r.plain)=z5r.own 30:=if_pos e0
   have hr:z9Kb l x=(⟨l.size,l.roots,l.ents++[x]⟩,0):=by rw[z9Kb,if_neg (by rw[hok];decide),if_neg (by omega)]
   rw[hr]
   simp(maxSteps:=1000000) (disch:=first|omega|simp;done|simp;omega) [z7G,z3Ca,z8Wa,h300,h349,h356,p1,p2,p3,p4,p5,p6,hxl,htk,kT,kF,dM,d0,hi,hlen,sp,ex,z4wa,z2wa]
   exact⟨by omega,by omega,em⟩
  ·have d0:decide (0<l.ents.length)=true:=decide_eq_true (by omega)
   have hat:=z1xc h.e (show l.ents.length-1<l.ents.length by omega)
   have hla:l.ents[l.ents.length-1]'(by omega)=l.ents.getLastD x:=by
    rw[List.getLastD_eq_getLast?,List.getLast?_eq_getElem?,List.getElem?_eq_getElem (by omega)];rfl
   rw[hla] at hat
   have hne:l.ents≠[]:=fun h=>h0 (by rw[h];rfl)
   have i1:((l.ents.length:Int)-1).toNat=l.ents.length-1:=by omega
   generalize hgl:l.ents.getLastD x=y at hat
   by_cases ht:x.time<y.time
   ·have hr:z9Kb l x=(⟨0,[],[]⟩,20):=by rw[z9Kb,if_neg (by rw[hok];decide),if_pos ⟨by omega,hgl▸ht⟩]
    have dT:decide (x.time<y.time)=true:=decide_eq_true ht
    rw[hr]
    simp(maxSteps:=1000000) (disch:=first|omega|simp;done|simp;omega) [z7G,z3Ca,z8Wa,h300,h349,h356,p1,p2,p3,p4,p5,p6,hxl,htk,kT,kF,dM,d0,dT,hat,hlen,hne,sp,ex,i1,z4wa,z2wa]
    exact⟨⟨by omega,by omega⟩,by omega,rfl⟩
   ·have hr:z9Kb l x=(⟨l.size,l.roots,l.ents++[x]⟩,0):=by rw[z9Kb,if_neg (by rw[hok];decide),if_neg (fun h=>ht (hgl▸h.2))]
    have dT:decide (x.time<y.time)=false:=decide_eq_false ht
    rw[hr]
    simp(maxSteps:=1000000) (disch:=first|omega|simp;done|simp;omega) [z7G,z3Ca,z8Wa,h300,h349,h356,p1,p2,p3,p4,p5,p6,hxl,htk,kT,kF,dM,d0,dT,hat,hlen,hne,sp,ex,i1,z4wa,z2wa]
    exact⟨⟨by omega,by omega⟩,by omega,by omega,by omega,em⟩
end Go.Abs
end

section
namespace Go.Abs
set_option maxRecDepth 100000
set_option maxHeartbeats 4000000
def z3Zc:z1f:=⟨fun ds=>∃(nl:Option Bool) (n:Nat) (cs:List z0a),cs.length=n*30∧z8b cs=true∧ds=[.sl .plain nl n cs],fun ds=> .fn 372 [] [.ep [nth ds 0]]⟩
theorem z21d (E:Env):∀ds,z3Zc.pre ds→ds.length=z0Ia.n∧awp E z0Ia.body (z6va z0Ia.res (z3Zc.post ds)) (z4H z0Ia.wr ds):=by
 rintro _ ⟨nl,n,cs,hl,hp,rfl⟩
 simp(maxSteps:=1000000) (disch:=first|omega|simp;done|simp;omega) [z7G,z0Ia,z3Zc,nth]
def z4Qb (cs:List z0a) (i:Nat):z0a:= .agg ((cs.drop (i*30)).take 30)
def z9yc (c:z1f):ItC:=⟨fun x y=>x=[]∧∃(nl:Option Bool) (n:Nat) (cs:List z0a),cs.length=n*30∧n≤1000000∧(∀d∈cs,z0b d=true∧z8a d∧z5b d=false)∧(∀i,i<n→c.pre [z4Qb cs i]∧z0b (c.post [z4Qb cs i])=true∧dem (c.post [z4Qb cs i])=c.post [z4Qb cs i]∧yOk (c.post [z4Qb cs i])=true∧z6c (c.post [z4Qb cs i])=true)∧y=[.ep [.sl .plain nl n cs]],
 fun _ y i=>match nth y 0 with| .ep [.sl _ _ n cs]=>if i<n then some [c.post [z4Qb cs i]] else none|_=>none,[]⟩
@[simp] theorem z9je (c:z1f):(z9yc c).lv=[]:=rfl
theorem z9Sc (c:z1f) (m:z5r) (nl:Option Bool) (n:Nat) (cs:List z0a) (i:Nat):(z9yc c).el [] [.ep [.sl m nl n cs]] i=if i<n then some [c.post [z4Qb cs i]] else none:=rfl
theorem z1hd (E:Env) (l:Nat) (el:Nat→Option (List z0a)) (s t:Nat) (keep:List Nat) (gs:List z0h) (zs:List z6a) (Q:IQ) (p:Nat×Bool) (st:ASt):z0sb E l el (.lean s t keep gs zs) Q p st=∃d ds,lk st.org t=some (.ep (d::ds))∧awp E (.region keep gs zs) (fun e st'=>Q e p st') (z9Zb s d st):=rfl
theorem z8id (E:Env) (l:Nat) (el:Nat→Option (List z0a)) (s t:Nat) (keep:List Nat) (gs:List z0h) (zs:List z6a) (b:z66a) (Q:IQ) (p:Nat×Bool) (st:ASt):z0sb E l el (.seq (.lean s t keep gs zs) b) Q p st=z0sb E l el (.lean s t keep gs zs) (z5mc (fun p st=>z0sb E l el b Q p st) Q) p st:=rfl
theorem z0Pc (E:Env) (c:z1f) (h303:E.G 303=c):∀x y l,(z9yc c).pre x y→x.length=z5ta.nx∧y.length=z5ta.ny∧z0sb E l ((z9yc c).el x y) z5ta.body (itQ ((z9yc c).el x y)) (0,false) (z13c l [] x y):=by
 rintro _ _ ln ⟨rfl,nl,n,cs,hlen,hn,hcs,hc,rfl⟩
 have hel:∀i,(z9yc c).el [] [.ep [.sl .plain nl n cs]] i=if i<n then some [c.post [z4Qb cs i]] else none:=fun _=>rfl
 refine⟨rfl,rfl,?_⟩
 generalize hQ:itQ ((z9yc c).el [] [.ep [.sl .plain nl n cs]])=Q
 have hdone:∀p st',p.2=true→Q .normal p st':=fun p st' h=>by rw[←hQ];exact .inl h
 have hend:∀p st',n≤p.1→Q .normal p st':=fun p st' h=>by rw[←hQ];exact .inr (by rw[hel,if_neg (by omega)])
 have hQx:∀p st',p.2=true→Q .ret p st':=fun p st' h=>by rw[←hQ];exact .inl h
 generalize(z9yc c).el [] [.ep [.sl .plain nl n cs]]=el at hel
 have hpl:z8b cs=true:=(z4i _).2 fun d hd=>(hcs d hd).1
 simp(maxSteps:=1000000) (disch:=first|omega|simp;done|simp;omega) [z7G,z5ta,z9gb,z2jb,z3Dc]
 rw[z8id,z1hd]
 refine⟨.sl .plain nl n cs,[],rfl,?_⟩
 simp(maxSteps:=1000000) (disch:=first|omega|simp;done|simp;omega) [z7G,z9Zb]
 refine z9Fc fun Q1 hQ1=> ?_
 refine z1lc (fun p st'=>p.2=false∧p.1≤n∧st'=⟨[(5,.sl .plain nl n cs),(0,z0a.lit (Value.func (Fn.yield ln) #[] #[])),(1,.ep [.sl .plain nl n cs])],[(6,i64 n),(7,i64 p.1)],[]⟩) ⟨rfl,Nat.zero_le _,by simp⟩ fun p st' ⟨hp,hk,hst⟩ Q2 h2 hx hr=> ?_
 obtain⟨i,b⟩:=p
 subst hst
 simp only at hp hk
 subst hp
 by_cases h:i<n
 ·have hlt:(i:Int)<(n:Int):=by omega
  have hm:((cs.drop (i*30)).take 30).length=30:=by rw[List.length_take,List.length_drop,hlen];omega
  obtain⟨c1,c2,c3,c4,c5⟩:=hc i h
  have hcm:∀d∈(cs.drop (i*30)).take 30,z0b d=true∧z8a d∧z5b d=false:=fun d hd=>hcs d (List.mem_of_mem_drop (List.mem_of_mem_take hd))
  have hcp:z8b ((cs.drop (i*30)).take 30)=true:=(z4i _).2 fun d hd=>(hcm d hd).1
  have sp:=z2Ic (a:=i64 0::i64 0::i64 0::i64 0::i64 0::i64 0::i64 0::i64 0::i64 0::i64 0::st []:: .sl .plain none 0 []::(bys (z5j 16)++[.sl (.own 24) none 0 [],.sl (.own 1) none 0 []])) rfl hm
  have tk:List.take 30 (List.take 30 (List.drop (i*30) cs))=List.take 30 (List.drop (i*30) cs):=by rw[List.take_take,Nat.min_self]
  simp only[z4Qb] at c1 c2 c3 c4 c5 hel
  simp(maxSteps:=1000000) (disch:=first|omega|simp;done|simp;omega) [z7G,z8pa,z7pa,z1Wa,z6Xa,kT,kF,dT,dF,hlt]
  simp(maxSteps:=1000000) (disch:=first|omega|simp;done|simp;omega) [z7G,z8pa,z7pa,z1hb,z9hb,z7hb,z0hb,z0jb,hlen,h303,c1,c2,c3,c4,c5,hm,hcp,hel,sp,tk,or_imp,forall_and,and_imp,forall_eq]
  refine⟨h,by omega,⟨fun d hd=>(hcm d hd).2.1,fun d hd=>(hcm d hd).2.2⟩,h,?_,?_⟩
  ·simp(maxSteps:=1000000) (disch:=first|omega|simp;done|simp;omega) [z7G,kT,kF]
   show Q2 .ret (i,true) _
   rw[hr,hQ1]
   exact hQx (i,true) _ rfl
  ·simp(maxSteps:=1000000) (disch:=first|omega|simp;done|simp;omega) [z7G,kT,kF]
   exact⟨fun a b hb id hid=>(by rcases hb with⟨_,rfl⟩|⟨_,rfl⟩<;>cases hid),h2 (i+1,false) _ ⟨rfl,by show i+1≤n;omega,by simp⟩ rfl (.inl rfl)⟩
 ·have hlt:¬(i:Int)<(n:Int):=by omega
  simp(maxSteps:=1000000) (disch:=first|omega|simp;done|simp;omega) [z7G,z8pa,z7pa,z1Wa,z6Xa,kT,kF,dT,dF,hlt,hx,hQ1]
  exact hend _ _ (by show n≤i;omega)
end Go.Abs
end

section
namespace Go.Abs
theorem z0Vc {k m:Nat} (h:m<2^k):oN (2^k+m)=oN m+1:=by
 have:=z53c k m 1 h
 rw[Nat.mul_one,Nat.add_comm m] at this
 rw[this,z7u 1,show 1/2=0 from rfl,z7K]
theorem z6Bd {k n:Nat} (h1:2^k<n) (h2:n≤2*2^k):spl n=2^k:=by
 have hp:=Nat.two_pow_pos k
 have a1:=z1H (n:=n) (by omega)
 have a2:=z5pb (n:=n) (by omega)
 unfold spl at*
 rw[z5Bc a1 a2 h1 h2]
end Go.Abs
end

section
namespace Go.Abs
attribute [local simp] z2u fnd wIn z4m z0T
end Go.Abs
end

section
namespace Go.Abs
end Go.Abs
end
