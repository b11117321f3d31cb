/- Lemmas. -/
import Derived.Test.YtiehmnjjlbndlaaGreatDoorP
import Derived.Maps.Views
set_option linter.all false
namespace Go.Abs
set_option maxRecDepth 100000
def Il:av:=
 YR [4,5] [.norm [2,6,32]] [YL 19 3 2 2,Yk 20 349 19,Ym 21 1,Yf 22 1 6,Yl 23 6 22,Yf 24 2 2,Yl 25 2 24,Ym 26 1,Yf 27 0 2,Yf 28 0 27,Yl 29 2 28,Yb 30 .sub 26 29,YF 31 30 25 30,Yk 32 350 31,Yk 33 351 32,Yo 34 (.call 352 [.s 20,.s 21,.c (bo true),.s 23,.s 33] []),Ym 4 34,Yc 5 0] .ret
def Ik:av:=
 YR [2,6,7] [.norm [2,6]] [YL 11 3 2 2,Ym 12 1,YK 13 348 11 12,Ym 10 13,Ye 14 0 10,Ye 15 1 10,YH 6 6,Ys 2 6 6 14,Ym 7 15] (Yq (Yr [2,6,7,17] [Ym 16 7,YB 17 .neq 16 0] (Yd 17 (Yr [4,5] [Ym 18 7,Yv 4 16,Ym 5 18] .ret) (Yy [2,6]))) Il)
def Mz:nH:=
 {n:=2,wr:=[],res:=[.t 4,.t 5],body:=YR [2] [.norm [2]] [Yx 2 2 3 0,Yv 4 16,Yc 5 0] (Yq (Yr [2,9] [Ym 8 1,YB 9 .lss 8 1] (Yd 9 (Yr [4,5] [Yv 4 16,Yc 5 11] .ret) (Yy [2]))) Ik)}
def Fu:av:=
 YR [2,4,6] [.norm [2,4,6]] [Yf 21 0 2,Yf 22 0 21,Yl 23 2 22,Yf 24 0 2,Yf 25 1 24,Yl 26 2 25,Yk 27 180 26,Yo 28 (.build [i64 0,.sl .plain none 0 []] [(0,1,.s 23),(1,1,.s 27)]),YH 6 6,Ys 2 6 6 28] (YR [4,7] [.norm [2,4,6,7]] [YL 30 2 6 6,Yf 31 2 2,Yl 32 2 31,Ym 33 1,Yf 34 0 2,Yf 35 0 34,Yl 36 2 35,Yb 37 .sub 33 36,YX 38 30 32 37,YK 39 354 30 38,Ym 29 39,Ye 40 0 29,Ye 41 1 29,YH 7 7,Ys 2 7 7 40,Ym 8 41] (YR [4,5] [.norm [2,4,6,7]] [YL 42 2 7 7,Ys 2 4 4 42,Yc 5 0] .ret))
def ub:nH:=
 {n:=2,wr:=[],res:=[.cell 4 (some 2) 4,.t 5],body:=YR [2,4] [.norm [2,4]] [Yx 2 2 3 0,YH 4 4,Yc 5 0] (Yq (YR [2,4,19] [.norm [2,4]] [Ym 9 1,Yf 10 0 2,Yf 11 0 10,Yl 12 2 11,Yb 13 .lss 9 12,Ym 14 13,Yg 14 (Ym 15 1),Yg 14 (YL 16 3 2 2),Yg 14 (Yk 17 349 16),Yg 14 (Yb 18 .gtr 15 17),YP 19 14 18] (Yd 19 (YR [4,5] [.norm [2,4]] [Yo 20 (.build [i64 0,.sl .plain none 0 []] []),Ys 2 4 4 20,Yc 5 11] .ret) (Yy [2,4]))) Fu)}
def yC:nH:=
 {n:=1,wr:=[],res:=[.cell 2 (some 16) 2],body:=YR [1,2] [.norm [1,2]] [Yx 1 1 3 0,Yz 2 2 16] (YR [2,3] [.norm [1,2,3]] [YL 8 3 1 1,YL 9 3 1 1,Yk 10 349 9,YK 11 348 8 10,Ym 7 11,Ye 12 0 7,Ye 13 1 7,YH 3 3,Ys 2 3 3 12,Ym 4 13] (YR [2,5] [.norm [1,2,3,5]] [YL 15 2 3 3,Yk 16 185 15,Ym 14 16,Ye 17 0 14,Ye 18 1 14,Yz 5 5 16,Ys 16 5 5 17,Ym 6 18] (YR [2] [.norm [1,2,3,5]] [YL 19 16 5 5,Ys 16 2 2 19] .ret)))}
def yb:nH:=
 {n:=1,wr:=[],res:=[.t 2],body:=YR [1] [.norm [1]] [Yx 1 1 3 0,Yc 2 0] (YR [2] [.norm [1]] [Yf 3 0 1,Yf 4 0 3,Yl 5 1 4,Yf 6 2 1,Yl 7 1 6,Yn 8 7,Yb 9 .add 5 8,Ym 2 9] .ret)}
def JW:av:=
 YR [2,4] [.norm [2,3,4]] [Yf 36 2 2,Yl 37 2 36,Yk 38 356 37,YL 39 30 3 3,Yo 40 (.buildSl 30 1 [i64 0,i64 0,i64 0,i64 0,i64 0,i64 0,i64 0,i64 0,i64 0,i64 0,st [],.sl .plain none 0 [],u8 0,u8 0,u8 0,u8 0,u8 0,u8 0,u8 0,u8 0,u8 0,u8 0,u8 0,u8 0,u8 0,u8 0,u8 0,u8 0,.sl .plain none 0 [],.sl .plain none 0 []] [(0,30,.s 39)]),Yo 41 (.appendC 30 184 false none none (.s 38) (.s 40)),Yf 42 2 2,YS 2 42 41] (YR [4,5] [.norm [2,3,4]] [YL 43 3 2 2,Ys 3 4 4 43,Yc 5 0] .ret)
def NJ:nH:=
 {n:=2,wr:=[],res:=[.cell 4 (some 3) 4,.t 5],body:=YR [2,3,4] [.norm [2,3,4]] [Yx 2 2 3 0,Yx 3 3 30 1,Yh 4 4,Yc 5 0] (YR [2,3,4,6] [.norm [2,3,4]] [Yf 7 2 2,Yl 8 2 7,Yn 9 8,Ym 6 9] (Yq (.block 0 (YR [2,3,4,6,10] [.norm [2,3,4]] [YL 11 30 3 3,Yk 12 300 11,YU 13 .not 12,Ym 10 13] (Yd 10 (YR [4,5] [.norm [2,3,4]] [Yo 14 (.build [i64 0,.sl .plain none 0 [],.sl .plain none 0 []] []),Ys 3 4 4 14,Yc 5 1] .ret) (YR [2,3,4,6,15] [.norm [2,3,4]] [YL 16 3 2 2,Yk 17 349 16,YB 18 .geq 17 65536,Ym 15 18] (Yd 15 (YR [4,5] [.norm [2,3,4]] [Yo 19 (.build [i64 0,.sl .plain none 0 [],.sl .plain none 0 []] []),Ys 3 4 4 19,Yc 5 2] .ret) (YR [2,3,4,20] [.norm [2,3,4]] [Ym 21 6,YB 22 .gtr 21 0,Ym 23 22,YG 23 (Yf 24 0 3),YG 23 (Yl 25 3 24),YG 23 (Yf 26 2 2),YG 23 (Yl 27 2 26),YG 23 (Ym 28 6),YG 23 (YB 29 .sub 28 1),YG 23 (Yi 30 30 27 29),YG 23 (Yf 31 0 30),YG 23 (Yj 32 31),YG 23 (Yb 33 .lss 25 32),Yp 34 23 33,Ym 20 34] (Yd 20 (YR [4,5] [.norm [2,3,4]] [Yo 35 (.build [i64 0,.sl .plain none 0 [],.sl .plain none 0 []] []),Ys 3 4 4 35,Yc 5 20] .ret) (Yy [2,3,4])))))))) JW))}
def L4:av:=
 YR [4,5] [.norm [2,4,6]] [YL 18 2 6 6,Yf 19 2 2,Yl 20 2 19,Ym 21 1,Yf 22 0 2,Yf 23 0 22,Yl 24 2 23,Yb 25 .sub 21 24,YF 26 30 20 25,Yk 27 358 26,Yo 28 (.build [i64 0,.sl .plain none 0 [],.sl .plain none 0 []] [(0,2,.s 18),(2,1,.s 27)]),Ys 3 4 4 28,Yc 5 0] .ret
def SW:nH:=
 {n:=2,wr:=[],res:=[.cell 4 (some 3) 4,.t 5],body:=YR [2,4] [.norm [2,4]] [Yx 2 2 3 0,Yh 4 4,Yc 5 0] (YR [2,4,6,7] [.norm [2,4,6]] [YL 9 3 2 2,Ym 10 1,YK 11 348 9 10,Ym 8 11,Ye 12 0 8,Ye 13 1 8,YH 6 6,Ys 2 6 6 12,Ym 7 13] (Yq (Yr [2,4,6,7,15] [Ym 14 7,YB 15 .neq 14 0] (Yd 15 (YR [4,5] [.norm [2,4,6]] [Yo 16 (.build [i64 0,.sl .plain none 0 [],.sl .plain none 0 []] []),Ym 17 7,Ys 3 4 4 16,Ym 5 17] .ret) (Yy [2,4,6]))) L4))}
def KG:av:=
 YR [3,6,8,10] [.norm [3,6,8]] [YL 34 3 3 3,Ym 35 2,YK 36 353 34 35,Ym 33 36,Ye 37 0 33,Ye 38 1 33,YM 10 37,Ym 11 38] (YR [3,6,8,10,12] [.norm [3,6,8]] [Yf 39 0 3,Yf 40 0 39,Yl 41 3 40,Ym 12 41] (YR [6,7] [.norm [3,6,8]] [Ym 42 1,Yf 43 2 3,Yl 44 3 43,Ym 45 1,Ym 46 12,Yb 47 .sub 45 46,Ym 48 2,Ym 49 12,Yb 50 .sub 48 49,Yo 51 (.slSl 30 (.s 44) (some (.s 47)) (some (.s 50)) none),Yk 52 358 51,Yf 53 1 8,Yl 54 8 53,Ym 55 10,Yo 56 (.buildSl 1 2 [.sl .plain none 0 [],.sl .plain none 0 []] [(0,1,.s 54),(1,1,.s 55)]),Yo 57 (.build [i64 0,.sl .plain none 0 [],.sl .plain none 0 []] [(0,1,.s 42),(1,1,.s 52),(2,1,.s 56)]),Ys 3 6 6 57,Yc 7 0] .ret))
def Qq:nH:=
 {n:=3,wr:=[],res:=[.cell 6 (some 3) 6,.t 7],body:=YR [3,6] [.norm [3,6]] [Yx 3 3 3 0,Yh 6 6,Yc 7 0] (YR [3,6,8,9] [.norm [3,6,8]] [YL 14 3 3 3,Ym 15 1,YK 16 348 14 15,Ym 13 16,Ye 17 0 13,Ye 18 1 13,YH 8 8,Ys 2 8 8 17,Ym 9 18] (Yq (YR [3,6,8,31] [.norm [3,6,8]] [Ym 19 9,YB 20 .neq 19 0,Ym 21 20,Yg 21 (Ym 22 1),Yg 21 (Ym 23 2),Yg 21 (Yb 24 .geq 22 23),YP 25 21 24,Ym 26 25,Yg 26 (Ym 27 2),Yg 26 (YL 28 3 3 3),Yg 26 (Yk 29 349 28),Yg 26 (Yb 30 .gtr 27 29),YP 31 26 30] (Yd 31 (YR [6,7] [.norm [3,6,8]] [Yo 32 (.build [i64 0,.sl .plain none 0 [],.sl .plain none 0 []] []),Ys 3 6 6 32,Yc 7 11] .ret) (Yy [3,6,8]))) KG))}
def A9:av:=
 Yr [6] [Yc 6 0] .ret
def vO:av:=
 Yq (YR [3,5,7,11,12] [.norm [3,5,9,11]] [YL 68 2 9 9,Yk 69 185 68,Ym 67 69,Ye 70 0 67,Ye 71 1 67,Yz 11 11 16,Ys 16 11 11 70,Ym 12 71] (YR [88] [.norm [3,5,9,11]] [Ym 72 12,YB 73 .neq 72 0,Ym 74 73,Yg 74 (YL 75 16 11 11),Yg 74 (YL 76 16 3 3),Yg 74 (Yf 77 0 5),Yg 74 (Yl 78 5 77),Yg 74 (Ym 79 7),Yg 74 (Yb 80 .add 78 79),Yg 74 (Ym 81 1),Yg 74 (Yf 82 2 5),Yg 74 (Yl 83 5 82),Yg 74 (YI 84 1 83 1),Yg 74 (Yj 85 84),Yg 74 (YT 86 176 [75,76,80,81,85]),Yg 74 (YU 87 .not 86),YP 88 74 87] (Yd 88 (Yr [6] [Yc 6 8] .ret) (Yy [])))) A9
def vP:av:=
 YR [3,5,7,9,10] [.norm [3,5,9]] [Yf 53 0 5,Yl 54 5 53,Yf 55 2 5,Yl 56 5 55,YI 57 1 56 0,Yj 58 57,Yo 59 (.build [i64 0,.sl .plain none 0 []] [(0,1,.s 54),(1,1,.s 58)]),Yf 60 1 5,Yl 61 5 60,YK 62 354 59 61,Ym 52 62,Ye 63 0 52,Ye 64 1 52,YH 9 9,Ys 2 9 9 63,Ym 10 64] (Yq (Yr [3,5,7,9,66] [Ym 65 10,YB 66 .neq 65 0] (Yd 66 (Yr [6] [Yc 6 1] .ret) (Yy [3,5,7,9]))) vO)
def o8:nH:=
 {n:=3,wr:=[],res:=[.t 6],body:=YR [3,5] [.norm [3,5]] [Yx 3 3 16 0,Yx 5 5 3 2,Yc 6 0] (YR [3,5,7] [.norm [3,5]] [Yf 13 1 5,Yl 14 5 13,Yn 15 14,Ym 7 15] (Yr [3,5,7,8] [Yo 8 (.mv false (.c (.fn 361 [] [])))] (Yq (YR [3,5,7,51] [.norm [3,5]] [Ym 16 7,YB 17 .eql 16 0,Ym 18 17,Yg 18 (Yf 19 0 5),Yg 18 (Yl 20 5 19),Yg 18 (YB 21 .lss 20 0),YP 22 18 21,Ym 23 22,Yg 23 (Ym 24 1),Yg 23 (Ym 25 7),Yg 23 (Yb 26 .lss 24 25),YP 27 23 26,Ym 28 27,Yg 28 (Yf 29 0 5),Yg 28 (Yl 30 5 29),Yg 28 (Ym 31 1),Yg 28 (Ym 32 7),Yg 28 (Yb 33 .sub 31 32),Yg 28 (Yb 34 .gtr 30 33),YP 35 28 34,Ym 36 35,Yg 36 (Ym 37 1),Yg 36 (YB 38 .gtr 37 65536),YP 39 36 38,Ym 40 39,Yg 40 (Yf 41 2 5),Yg 40 (Yl 42 5 41),Yg 40 (Yn 43 42),Yg 40 (YB 44 .neq 43 2),YP 45 40 44,Ym 46 45,Yg 46 (Yf 47 1 5),Yg 46 (Yl 48 5 47),Yg 46 (Ym 49 8),Yg 46 (YK 50 362 48 49),YP 51 46 50] (Yd 51 (Yr [6] [Yc 6 1] .ret) (Yy [3,5,7]))) vP)))}
def Mp:av:=
 YR [4,5] [.norm [2,3,4]] [Yf 35 0 2,Yl 36 2 35,Yf 37 1 2,Yl 38 2 37,Yf 39 1 3,Yl 40 3 39,Yo 41 (.buildSl 1 2 [.sl .plain none 0 [],.sl .plain none 0 []] [(0,1,.s 38),(1,1,.s 40)]),Yk 42 364 41,Yf 43 2 2,Yl 44 2 43,YI 45 1 44 0,Yj 46 45,Yk 47 180 46,Yf 48 2 3,Yl 49 3 48,YI 50 1 49 1,Yj 51 50,Yk 52 180 51,Yo 53 (.buildSl 1 2 [.sl .plain none 0 [],.sl .plain none 0 []] [(0,1,.s 47),(1,1,.s 52)]),Yo 54 (.build [i64 0,.sl .plain none 0 [],.sl .plain none 0 []] [(0,1,.s 36),(1,1,.s 42),(2,1,.s 53)]),Ys 3 4 4 54,Yc 5 0] .ret
def TA:nH:=
 {n:=2,wr:=[],res:=[.cell 4 (some 3) 4,.t 5],body:=YR [2,3,4] [.norm [2,3,4]] [Yx 2 2 3 0,Yx 3 3 3 1,Yh 4 4,Yc 5 0] (Yq (YR [2,3,4,33] [.norm [2,3,4]] [Yf 6 2 2,Yl 7 2 6,Yn 8 7,YB 9 .neq 8 2,Ym 10 9,Yg 10 (Yf 11 2 3),Yg 10 (Yl 12 3 11),Yg 10 (Yn 13 12),Yg 10 (YB 14 .neq 13 2),YP 15 10 14,Ym 16 15,Yg 16 (Yf 17 0 3),Yg 16 (Yl 18 3 17),Yg 16 (Yf 19 0 2),Yg 16 (Yl 20 2 19),Yg 16 (Yb 21 .lss 18 20),YP 22 16 21,Ym 23 22,Yg 23 (Yf 24 0 3),Yg 23 (Yl 25 3 24),Yg 23 (Yf 26 0 2),Yg 23 (Yl 27 2 26),Yg 23 (Yf 28 1 2),Yg 23 (Yl 29 2 28),Yg 23 (Yn 30 29),Yg 23 (Yb 31 .add 27 30),Yg 23 (Yb 32 .neq 25 31),YP 33 23 32] (Yd 33 (YR [4,5] [.norm [2,3,4]] [Yo 34 (.build [i64 0,.sl .plain none 0 [],.sl .plain none 0 []] []),Ys 3 4 4 34,Yc 5 1] .ret) (Yy [2,3,4]))) Mp)}
def Jj:av:=
 .region [2,4,5,6,7,8,47,48,49] [.norm [2,4,5,6,8,15]] [Yf 61 1 8,Yo 62 (.load none (some 8) true (.s 61)),YL 63 30 15 15,Yo 64 (.buildSl 30 1 [i64 0,i64 0,i64 0,i64 0,i64 0,i64 0,i64 0,i64 0,i64 0,i64 0,st [],.sl .plain none 0 [],u8 0,u8 0,u8 0,u8 0,u8 0,u8 0,u8 0,u8 0,u8 0,u8 0,u8 0,u8 0,u8 0,u8 0,u8 0,u8 0,.sl .plain none 0 [],.sl .plain none 0 []] [(0,30,.s 63)]),YN 65 30 184 62 64,Yf 66 1 8,YO (.store none 8 true (.s 66) (.s 65))]
def Je:av:=
 Yq (.block 1 (YR [2,4,5,6,7,8,14,47,48,49] [.norm [2,4,5,6,8]] [Yi 51 1 47 49,Yj 52 51,Ym 14 52] (YR [2,4,5,6,7,8,15,16,47,48,49] [.norm [2,4,5,6,8,15]] [Ym 54 14,Yk 55 322 54,Ym 53 55,Ye 56 0 53,Ye 57 1 53,Yo 15 (.alloc 15 (List.replicate 10 (i64 0)++[st []]++[.sl .plain none 0 []]++bys (bF 16)++[.sl (.own 24) none 0 []]++[.sl (.own 1) none 0 []])),Ys 30 15 15 56,Ym 16 57] (Yq (YR [2,4,5,6,7,8,15,47,48,49,60] [.norm [2,4,5,6,8,15]] [Yl 58 6 6,Ym 59 16,Yo 60 (.callm 366 (some (.s 58)) [.s 59] [(1,5)] [])] (Yd 60 (YY [2,4,5,6,7,8]) (Yy [2,4,5,6,7,8,15,47,48,49]))) Jj)))) (.region [2,4,5,6,7,8,47,48,49] [.drop [15]] [YB 67 .add 49 1,Ym 49 67])
def Jd:av:=
 Yr [2,4,5,6,7,8,47,48,49,50] [Yb 50 .lss 49 48] (Yq (Yd 50 (Yy [2,4,5,6,7,8,47,48,49]) (YY [2,4,5,6,7,8])) Je)
def I8:av:=
 Yq (.block 3 (YR [2,4,5,6,7,8,18,19,20,84] [.norm [2,4,5,6,8,15]] [Yl 87 4 4,Yk 88 58 87,Ym 86 88,Ye 89 0 86,Ye 90 1 86,Ye 91 2 86,YM 18 89,Ym 19 90,Ym 20 91] (Yr [2,4,5,6,7,8,18,84,95] [Ym 92 7,Ym 93 19,Ym 94 20,Yo 95 (.callw 367 (some (.s 92)) [.s 93,.s 94] [(2,6),(3,4),(400009,5)] [])] (Yd 95 (.region [2,4,5,6,7,8,84] [.norm [2,4,5,6,8,15]] [Yf 96 2 8,Yo 97 (.load none (some 8) true (.s 96)),YM 98 18,Yo 99 (.buildSl 1 1 [.sl .plain none 0 []] [(0,1,.s 98)]),YN 100 1 24 97 99,Yf 101 2 8,YO (.store none 8 true (.s 101) (.s 100))]) (Yy [2,4,5,6,7,8,84]))))) (Yu [2,4,5,6,7,8,84] [YB 102 .add 84 1,Ym 84 102])
def Jk:av:=
 Yr [2,4,5,6,7,8,84,85] [YB 85 .lss 84 2] (Yq (Yd 85 (Yy [2,4,5,6,7,8,84]) (.ghost (.keep [2,4,5,6,8]) (.exit 2))) I8)
def Jg:av:=
 .ghost (.reB 8 1 none) (.ghost (.reB 8 2 none) (YR [2,3] [.norm [2,4,5,6,8,15]] [YL 112 3 8 8,Ys 3 2 2 112,Yc 3 0] .ret))
def JG:av:=
 Yq (YR [2,5,8,109] [.norm [2,4,5,6,8,15]] [Yl 108 5 5,YB 109 .neq 108 0] (Yd 109 (YR [2,3] [.norm [2,4,5,6,8,15]] [Yo 110 (.build [i64 0,.sl .plain none 0 [],.sl .plain none 0 []] []),Yl 111 5 5,Ys 3 2 2 110,Ym 3 111] .ret) (Yy [2,8]))) Jg
def Ke:av:=
 Yq (YR [2,5,6,8,105] [.norm [2,4,5,6,8,15]] [Yl 103 4 4,Yn 104 103,YB 105 .gtr 104 0] (Yd 105 (.region [2,5,8] [.norm [2,4,5,6,8,15]] [Yl 106 6 6,Yo 107 (.callm 366 (some (.s 106)) [.c (i64 6)] [(1,5)] [])]) (Yy [2,5,8]))) JG
def JD:av:=
 Yq (Yr [2,4,5,6,7,8,84] [Yc 84 0] (.block 2 (.loop Jk))) Ke
def JK:av:=
 YR [2,4,5,6,7,8,10,11,17] [.norm [2,4,5,6,8,15]] [Yl 69 4 4,Yk 70 45 69,Ym 68 70,Ye 71 0 68,Ye 72 1 68,Ye 73 2 68,Ym 17 71,Ym 10 72,Ym 11 73] (Yq (Yr [2,4,5,6,7,8,81] [Ym 74 7,Ym 75 10,Ym 76 11,Yo 77 (.callw 367 (some (.s 74)) [.s 75,.s 76] [(2,6),(3,4),(400009,5)] []),Ym 78 77,YG 78 (Ym 79 17),YG 78 (YB 80 .neq 79 2),Yp 81 78 80] (Yd 81 (.region [2,4,5,6,7,8] [.norm [2,4,5,6,8,15]] [Yl 82 6 6,Yo 83 (.callm 366 (some (.s 82)) [.c (i64 6)] [(1,5)] [])]) (Yy [2,4,5,6,7,8]))) JD)
def I7:av:=
 YR [2,4,5,6,7,8,10,11,12] [.norm [2,4,5,6,8]] [Yl 38 4 4,Yk 39 55 38,Ym 37 39,Ye 40 0 37,Ye 41 1 37,Ye 42 2 37,YM 12 40,Ym 10 41,Ym 11 42] (Yr [2,4,5,6,7,8,12] [Ym 43 7,Ym 44 10,Ym 45 11,Yo 46 (.callw 367 (some (.s 43)) [.s 44,.s 45] [(2,6),(3,4),(400009,5)] [])] (Yq (Yr [2,4,5,6,7,8,47,48,49] [YM 47 12,Yn 48 47,Yc 49 0] (.block 0 (.loop Jd))) JK))
def Nh:nH:=
 {n:=1,wr:=[],res:=[.cell 2 (some 3) 2,.t 3],body:=YR [2] [.norm [2]] [Yo 2 (.alloc 2 [i64 0,.sl (.own 30) none 0 [],.sl (.own 1) none 0 []]),Yc 3 0] (YR [2,4,5] [.norm [2,4,5]] [Ym 21 0,Yo 22 (.toBytes (.s 21)),Yo 4 (.alloc 4 [.sl (.own 1) none 0 []]),Yo 5 (.alloc 5 [i64 0]),YO (.store none 4 true (.s 4) (.s 22)),YO (.store none 5 false (.s 5) (.c (i64 0)))] (YR [2,4,5,6] [.norm [2,4,5,6]] [Yo 23 (.mkfn 366 [] [.s 5]),Yo 6 (.alloc 6 [.lit .nilFunc]),YS 6 6 23] (Yr [2,4,5,6,7] [Yo 24 (.mkfn 367 [] [.s 6,.s 4]),Ym 7 24] (YR [2,4,5,6,7,8] [.norm [2,4,5,6,8]] [Yo 8 (.alloc 8 [i64 0,.sl (.own 30) none 0 [],.sl (.own 1) none 0 []])] (YR [2,4,5,6,7,8,9,10,11] [.norm [2,4,5,6,8]] [Yl 26 4 4,Yk 27 45 26,Ym 25 27,Ye 28 0 25,Ye 29 1 25,Ye 30 2 25,Ym 9 28,Ym 10 29,Ym 11 30] (Yq (Yr [2,4,5,6,7,8,9,34] [Ym 31 7,Ym 32 10,Ym 33 11,Yo 34 (.callw 367 (some (.s 31)) [.s 32,.s 33] [(2,6),(3,4),(400009,5)] [])] (Yd 34 (.region [2,4,5,6,7,8] [.norm [2,4,5,6,8]] [Ym 35 9,Yf 36 0 8,YS 8 36 35]) (Yy [2,4,5,6,7,8]))) I7))))))}
def Js:av:=
 Yq (.block 1 (YR [1,3,5,10,11,12] [.norm [1,5]] [Yi 14 30 10 12,YJ 15 30 14,Yo 5 (.alloc 5 (List.replicate 10 (i64 0)++[st []]++[.sl .plain none 0 []]++bys (bF 16)++[.sl (.own 24) none 0 []]++[.sl (.own 1) none 0 []])),Ys 30 5 5 15] (.region [1,3,10,11,12] [.norm [1,5]] [YM 16 3,YL 17 30 5 5,Yk 18 302 17,Yo 19 (.buildSl 1 1 [st []] [(0,1,.s 18)]),YN 20 1 16 16 19,YM 3 20]))) (.region [1,3,10,11,12] [.drop [5]] [YB 21 .add 12 1,Ym 12 21])
def Ju:av:=
 Yr [1,3,10,11,12,13] [Yb 13 .lss 12 11] (Yq (Yd 13 (Yy [1,3,10,11,12]) (YY [1,3])) Js)
def Jv:av:=
 Yq (.block 3 (YR [6,8,34,35,36] [.norm [1,5]] [Yi 38 1 34 36,Yj 39 38,YM 8 39] (Yu [6,34,35,36] [YM 40 6,YM 41 8,Yk 42 43 41,YN 43 1 1 40 42,YM 6 43]))) (Yu [6,34,35,36] [YB 44 .add 36 1,Ym 36 44])
def JS:av:=
 Yr [6,34,35,36,37] [Yb 37 .lss 36 35] (Yq (Yd 37 (Yy [6,34,35,36]) (.ghost (.keep [6]) (.exit 2))) Jv)
def JU:av:=
 Yr [2] [YM 45 6,Yo 46 (.toStr none (.s 45)),Ym 2 46] .ret
def J9:av:=
 YR [1,6] [.norm [1,5]] [Yf 22 0 1,Yl 23 1 22,Yk 24 12 23,Ym 25 3,Yk 26 41 25,Yf 27 2 1,Yl 28 1 27,Yn 29 28,Yk 30 12 29,Yo 31 (.buildSl 1 3 [.sl .plain none 0 [],.sl .plain none 0 [],.sl .plain none 0 []] [(0,1,.s 24),(1,1,.s 26),(2,1,.s 30)]),Yk 32 129 31,YM 6 32] (Yq (YR [6,34,35,36] [.norm [1,5]] [Yf 33 2 1,Yl 34 1 33,Yn 35 34,Yc 36 0] (.block 2 (.loop JS))) JU)
def Of:nH:=
 {n:=1,wr:=[],res:=[.t 2],body:=YR [1] [.norm [1]] [Yx 1 1 3 0,Yo 2 (.mv false (.c (st [])))] (Yr [1,3] [Yv 3 1] (Yq (YR [1,3,10,11,12] [.norm [1]] [Yf 9 1 1,Yl 10 1 9,Yn 11 10,Yc 12 0] (.block 0 (.loop Ju))) J9))}
def Kz:av:=
 .block 1 (Yu [11] [Ym 28 11,YB 29 .mul 28 2,Ym 11 29])
def Ku:av:=
 Yq (Yr [11,27] [Ym 24 11,Yo 25 (.bin .mul (.c (i64 2)) (.s 24)),Ym 26 0,Yb 27 .lss 25 26] (Yd 27 (Yy [11]) (YY [11]))) Kz
def KL:av:=
 Yr [10] [Ym 48 11,Ym 49 1,Ym 50 2,Ym 51 3,Ym 52 4,Ym 53 11,Ym 54 1,Yb 55 .sub 53 54,YX 56 16 52 55,YT 57 352 [48,49,50,51,56],Ym 58 4,Ym 59 11,Ym 60 1,Yb 61 .sub 59 60,YF 62 16 58 61,Yk 63 168 62,YQ 64 63,YN 65 16 16 57 64,YM 10 65] .ret
def Kx:av:=
 Yq (Yr [11,32] [Ym 30 1,Ym 31 11,Yb 32 .gtr 30 31] (Yd 32 (Yr [10] [Ym 33 0,Ym 34 11,Yb 35 .sub 33 34,Ym 36 1,Ym 37 11,Yb 38 .sub 36 37,Ym 39 3,Yo 40 (.slSl 16 (.s 39) (some (.c (i64 1))) none none),Ym 41 4,Yo 42 (.call 352 [.s 35,.s 38,.c (bo false),.s 40,.s 41] []),Ym 43 3,YI 44 16 43 0,YJ 45 16 44,YQ 46 45,YN 47 16 16 42 46,YM 10 47] .ret) (Yy [11]))) KL
def Kv:av:=
 Yr [11] [Yc 11 1] (Yq (.block 0 (.loop Ku)) Kx)
def KM:av:=
 Yq (Yr [20] [Ym 18 1,Ym 19 0,Yb 20 .eql 18 19] (Yd 20 (Yr [10] [Ym 21 3,Yk 22 370 21,YQ 23 22,YM 10 23] .ret) (Yy []))) Kv
def yr:nH:=
 {n:=5,wr:=[],res:=[.t 10],body:=Yr [] [Yv 10 16] (Yq (Yr [17] [Ym 12 1,Ym 13 0,Yb 14 .eql 12 13,Ym 15 14,YG 15 (Ym 16 2),Yp 17 15 16] (Yd 17 (Yr [10] [Yv 10 16] .ret) (Yy []))) KM)}
def zi:nH:=
 {n:=1,wr:=[],res:=[.t 2],body:=Yr [] [Yv 2 16] (Yr [2] [Ym 3 0,Yo 4 (.call 371 [.c (.lit (.slice none 0 0)),.s 3] []),YM 2 4] .ret)}
def tU:nH:=
 {n:=1,wr:=[],res:=[.t 2],body:=YR [1] [.norm [1]] [Yo 1 (.box 1 none false (.s 0)),Yo 2 (.mv false (.c (.lit .nilFunc)))] (YR [2] [.norm [1],.freeze [1]] [Yo 3 (.mkfn 372 [] [.s 1]),Ym 2 3] .ret)}
def Cg:av:=
 .region [2,4,5,6] [.norm [2,4,5,6,10]] [Yz 6 6 16,Ys 16 6 6 11]
def B8:av:=
 .block 1 (YR [2,4,5,7,8] [.norm [2,4,5,6,7,10]] [YL 13 2 2 2,YL 14 16 6 6,YK 15 182 13 14,Ym 12 15,Ye 16 0 12,Ye 17 1 12,YH 7 7,Ys 2 7 7 16,Ym 8 17] (Yq (Yr [2,4,5,7,8,19] [Ym 18 8,YB 19 .neq 18 0] (Yd 19 (YR [2,4,5] [.norm [2,4,5,6,7,10]] [Yo 20 (.build [i64 0,.sl .plain none 0 []] []),Ym 21 8,Ys 2 4 4 20,YS 5 5 21] (.ghost (.keep [2,4,5]) .ret)) (Yy [2,4,5,7]))) (.region [2,4,5] [.norm [2,4,5,6,7,10],.drop [6,7]] [YL 22 2 7 7,Ys 2 2 2 22])))
def Ft:av:=
 YR [4,5] [.norm [2,4,5,6,7,10]] [YL 23 2 2 2,Ys 2 4 4 23,YO (.store none 5 false (.s 5) (.c (i64 0)))] .ret
def pi:nH:=
 {n:=2,wr:=[],res:=[.cell 4 (some 2) 4,.cell 5 none 5],body:=YR [2,4,5] [.norm [2,4,5]] [Yx 2 2 2 0,YH 4 4,Yo 5 (.alloc 5 [i64 0])] (Yq (YR [2,4,5,10] [.norm [2,4,5,10]] [Ym 9 1,Yk 10 350 9] (.block 0 (.range 372 (.s 10) [2,4,5] [11] Cg B8))) Ft)}
def FB:nH:=
 {n:=1,wr:=[],res:=[.t 2],body:=Yr [] [Yv 2 30] (Yr [2] [Ym 3 0,Ym 4 0,Yn 5 4,Ym 6 0,Yn 7 6,Yo 8 (.slSl 30 (.s 3) none (some (.s 5)) (some (.s 7))),YM 2 8] .ret)}
def wN:av:=
 Yr [2] [Yo 5 (.buildSl 30 0 [] []),Ym 6 0,YN 7 30 184 5 6,YM 2 7] .ret
def pL:nH:=
 {n:=1,wr:=[],res:=[.t 2],body:=Yr [] [Yv 2 30] (Yq (Yr [4] [Ym 3 0,Yo 4 (.eqnil false (.s 3) (.c (.lit (.slice none 0 0))))] (Yd 4 (Yr [2] [Yv 2 30] .ret) (Yy []))) wN)}
def rc:nH:=
 {n:=1,wr:=[],res:=[.t 2],body:=YR [1] [.norm [1]] [Yx 1 1 30 0,Yw 2 false] (YR [2] [.norm [1]] [YL 3 30 1 1,Yk 4 300 3,YU 5 .not 4,Ym 2 5] .ret)}
def oQ:nH:=
 {n:=2,wr:=[],res:=[.t 4],body:=Yr [] [Yw 4 false] (Yr [4] [Ym 5 0,Ym 6 1,YK 7 373 5 6,YB 8 .geq 7 0,Ym 4 8] .ret)}
def CP:av:=
 Yq (.block 1 (Yr [3,5,9,10,11] [Yi 13 1 9 11,Yj 14 13,YM 5 14] (Yr [3,9,10,11] [Ym 15 3,YM 16 5,Yn 17 16,Yb 18 .add 15 17,Ym 3 18] (Yr [3,9,10,11,20] [Ym 19 3,YB 20 .lss 19 0] (Yd 20 (Yu [3,9,10,11] [Yo 21 .unsup,YO .unsup]) (Yy [3,9,10,11])))))) (Yu [3,9,10,11] [YB 22 .add 11 1,Ym 11 22])
def Cy:av:=
 Yr [3,9,10,11,12] [Yb 12 .lss 11 10] (Yq (Yd 12 (Yy [3,9,10,11]) (YY [3])) CP)
def CH:av:=
 Yq (.block 3 (Yr [6,8,25,26,27] [Yi 29 1 25 27,Yj 30 29,YM 8 30] (Yu [6,25,26,27] [YM 31 6,YM 32 8,YN 33 30 184 31 32,YM 6 33]))) (Yu [6,25,26,27] [YB 34 .add 27 1,Ym 27 34])
def CV:av:=
 Yr [6,25,26,27,28] [Yb 28 .lss 27 26] (Yq (Yd 28 (Yy [6,25,26,27]) (.ghost (.keep [6]) (.exit 2))) CH)
def Cw:av:=
 Yr [2] [YM 35 6,YM 2 35] .ret
def CE:av:=
 Yr [6] [Ym 23 3,Yo 24 (.call 374 [.c (.lit (.slice none 0 0)),.s 23] []),YM 6 24] (Yq (Yr [6,25,26,27] [Ym 25 0,Yn 26 25,Yc 27 0] (.block 2 (.loop CV))) Cw)
def D4:nH:=
 {n:=1,wr:=[],res:=[.t 2],body:=Yr [] [Yv 2 30] (Yr [3] [Yc 3 0] (Yq (Yr [3,9,10,11] [Ym 9 0,Yn 10 9,Yc 11 0] (.block 0 (.loop Cy))) CE))}
def HE:av:=
 YR [1,3] [.norm [1]] [Yl 7 1 1,YB 8 .neq 7 0,Ym 3 8] .ret
def yL:nH:=
 {n:=2,wr:=[],res:=[.t 3],body:=Yr [0,1] [Yw 3 false] (Yq (YR [0,1,5] [.norm [1]] [Yl 4 1 1,YB 5 .eql 4 0] (Yd 5 (.region [1] [.norm [1]] [Ym 6 0,YS 1 1 6]) (Yy [1]))) HE)}
def yN:nH:=
 {n:=4,wr:=[],res:=[.t 6],body:=Yr [0,1,2,3] [Yw 6 false] (Yq (YR [0,2,3,9] [.norm [2,3,400009]] [Yl 7 2 2,Ym 8 1,Yo 9 (.callm 366 (some (.s 7)) [.s 8] [(1,400009)] [])] (Yd 9 (Yr [2,3,6] [Yw 6 false] .ret) (Yy [0,2,3]))) (YR [2,3] [.norm [2,3,400009]] [Yl 10 3 3,Ym 11 0,YF 12 1 10 11,YS 3 3 12] (Yr [2,3,6] [Yw 6 true] .ret)))}
def L9:av:=
 .region [2,3,5] [.norm [2,3,5]] [Yz 5 5 16,Ys 16 5 5 19]
def MI:av:=
 .block 1 (.region [2,3] [.norm [2,3,5],.drop [5]] [Yo 20 (.slArr 16 1 (.s 5) none none none),Yo 21 (.toStr (some 5) (.s 20)),Yo 22 (.slArr 16 1 (.s 3) none none none),Yo 23 (.toStr (some 3) (.s 22)),Yo 24 (.buildSl 1 2 [st [],st []] [(0,1,.s 21),(1,1,.s 23)]),Yo 25 (.call 8 [.c (i64 2),.s 24] []),Ys 16 3 3 25])
def My:av:=
 YR [2] [.norm [2,3,5]] [YL 26 16 3 3,Ys 16 2 2 26] .ret
def CZ:nH:=
 {n:=1,wr:=[],res:=[.cell 2 (some 16) 2],body:=YR [2] [.norm [2]] [Yz 2 2 16] (YR [2,3] [.norm [2,3]] [Ym 6 0,Ym 7 0,Yn 8 7,YB 9 .sub 8 1,Yi 10 16 6 9,YJ 11 16 10,Yz 3 3 16,Ys 16 3 3 11] (Yq (YR [2,3,17] [.norm [2,3,17],.freeze [17]] [Ym 12 0,Ym 13 0,Yn 14 13,YB 15 .sub 14 1,YX 16 16 12 15,Yo 17 (.callm 183 none [.s 16] [] [(1,17)])] (.block 0 (.range 184 (.s 17) [2,3] [18,19] L9 MI))) My))}
def vN:av:=
 .region [2,5] [.norm [2,5]] [Yz 5 5 16,Ys 16 5 5 7]
def vK:av:=
 .block 1 (.region [2] [.norm [2,5],.drop [5]] [Yo 8 (.load none (some 2) true (.s 2)),YL 9 16 5 5,YQ 10 9,YN 11 16 16 8 10,YO (.store none 2 true (.s 2) (.s 11))])
def vM:av:=
 YR [4] [.norm [2,5]] [Yo 12 (.load none (some 2) true (.s 2)),YM 4 12] .ret
def pI:nH:=
 {n:=2,wr:=[],res:=[.t 4],body:=YR [2] [.norm [2],.reB 2 0 (some 16),.norm [2]] [Yo 2 (.box 2 none false (.s 0)),Yv 4 16] (Yq (Yr [2,6] [Ym 6 1] (.block 0 (.range 372 (.s 6) [2] [7] vN vK))) vM)}
def xy:av:=
 Yd 8 (Yy [6,7]) (YY [])
def BC:av:=
 .region [4,6,7] [.norm [4]] [Yi 9 30 5 7,YJ 10 30 9,Yo 4 (.alloc 4 (List.replicate 10 (i64 0)++[st []]++[.sl .plain none 0 []]++bys (bF 16)++[.sl (.own 24) none 0 []]++[.sl (.own 1) none 0 []])),Ys 30 4 4 10]
def BL:av:=
 Yd 15 .ret (Yy [6,7])
def Bt:zr:=
 .plain BL
def BE:zr:=
 .seq (.yield [6,7,15] [.norm [4]] [Ym 11 0,YL 12 30 4 4,Yk 13 303 12] (some 14) 11 [.s 13] [YU 15 .not 14]) Bt
def Bw:zr:=
 .seq (.block 1 (.seq (.plain BC) BE)) (.plain (.region [6,7] [.drop [4]] [YB 16 .add 7 1,Ym 7 16]))
def xf:zr:=
 .seq (.plain xy) Bw
def BN:zr:=
 .seq (.plain (.region [6,7,8] [] [Yb 8 .lss 7 6])) xf
def Bs:zr:=
 .block 0 (.loop BN)
def pO:z5oa:=
 {nx:=0,ny:=1,body:=.seq (.lean 5 1 [6,7] [] [Yn 6 5,Yc 7 0]) Bs}
def pQ:av:=
 Yq (.block 1 (Yr [5,7,8] [Ym 10 8,Ym 5 10] (Yr [5,7,8,16] [Ym 11 1,Ym 12 0,Ym 13 5,Yi 14 30 12 13,YJ 15 30 14,Yo 16 (.callv 361 (.s 11) [.s 15] [])] (Yd 16 (Yr [4] [Ym 17 5,Ym 4 17] .ret) (Yy [7,8]))))) (Yu [7,8] [YB 18 .add 8 1,Ym 8 18])
def pj:av:=
 Yr [7,8,9] [Yb 9 .lss 8 7] (Yq (Yd 9 (Yy [7,8]) (YY [])) pQ)
def qW:av:=
 Yr [4] [Yc 4 (-1)] .ret
def oL:nH:=
 {n:=2,wr:=[],res:=[.t 4],body:=Yr [] [Yc 4 0] (Yq (Yr [7,8] [Ym 6 0,Yn 7 6,Yc 8 0] (.block 0 (.loop pj))) qW)}
set_option maxHeartbeats 4000000
theorem z8ea(E:Env):∀ds,Ty.pre ds->ds.length=yb.n∧awp E yb.body (qH yb.res (Ty.post ds)) (fP yb.wr ds):=by rintro _ ⟨nr,ne,l,h,rfl⟩;rw[IC h];have hs:=h.s;simp(maxSteps:=999999) (disch:=first|omega|simp<;>omega|rfl) [fJ,yb,Iu,ur,qn];simp[lf.len]
def z3c:aW:=⟨λds=>KO.pre ds∧∀d,ds[0]? =some d->Ml d,KO.post⟩
theorem z0H(E:Env):∀ds,z3c.pre ds->ds.length=pL.n∧awp E pL.body (qH pL.res (z3c.post ds)) (fP pL.wr ds):=by
 rintro _ ⟨⟨nl,n,cs,hlen,hc,hn,rfl⟩,hk⟩;have hk:=hk _ rfl;rw[show z3c.post [.sl .plain nl n cs]= .sl (.own 30) none n cs from rfl]
 match nl,hk with
 |some true,hk=>obtain⟨h0,h1⟩:=hk;subst h0 h1;simp(maxSteps:=999999) (disch:=first|omega|simp<;>omega|rfl) [fJ,pL,kT]
 |some false,_=>simp(maxSteps:=999999) (disch:=first|omega|simp<;>omega|rfl) [fJ,pL,wN,kF,hlen];exact⟨by omega,by omega,hc⟩
theorem z5d:∀ds d b,KO.pre ds->ds[0]? =some d->KO.pre (ds.set 0 (MS b d))∧KO.post (ds.set 0 (MS b d))=KO.post ds:=by
 rintro _ d b ⟨nl,n,cs,hl,hc,hn,rfl⟩ hd;simp only[List.getElem?_cons_zero,Option.some.injEq] at hd;subst hd;cases nl with
 |none=>exact⟨⟨some b,n,cs,hl,hc,hn,rfl⟩,rfl⟩
 |some c=>exact⟨⟨some c,n,cs,hl,hc,hn,rfl⟩,rfl⟩
theorem z3t{a b:List oH}(ha:a.length=30)(hb:b.length=30):splice a 0 b=b:=by simp[splice,ha,hb]
theorem w7(nc nm ng:Option Bool)(x:pm):∀c∈qf nc nm ng x,ak c=true∧ah c:=by simp[qf,yP,or_imp,forall_and,z8m]
theorem NR(l:List pm):∀c∈pS l,ak c=true∧ah c:=λc hc=>by obtain⟨x,_,h⟩:=List.mem_flatMap.1 hc;exact w7 _ _ _ x c h
theorem z2K{l:List pm}(h:Bh l){i:Nat}(hi:i<l.length):hdA ((pS l).drop (i*30))=i64 l[i].time:=by have:=yO h hi;have e:=congrArg hdA this;rw[z6fa] at e;rw[<-e];cases(pS l).drop (i*30)<;>rfl
theorem Xu{a b:List UInt8}(ha:a.length<1099511627776)(hb:b.length<1099511627776)(h:mY 8 [a]=mY 8 [b]):a=b:=by simp only[mY,List.cons.injEq,true_and] at h;have:=vE (λs hs=>by simp at hs;rw[hs];exact ha) (λs hs=>by simp at hs;rw[hs];exact hb) h;simpa using this
theorem Lh{α β:Type}{f:α->β}:∀{a b:List α},(∀x∈a,∀y∈b,f x=f y->x=y)->a.map f=b.map f->a=b
 |[],[],_,_=>rfl
 |[],_::_,_,h=>by simp at h
 |_::_,[],_,h=>by simp at h
 |x::a,y::b,hi,h=>by simp only[List.map_cons,List.cons.injEq] at h;rw[hi x (by simp) y (by simp) h.1,Lh (λu hu v hv=>hi u (by simp[hu]) v (by simp[hv])) h.2]
theorem UY{C:List (List UInt8)}(hf:Xm C){es pe:List pm}{P0 P1:List (List UInt8)}{fr n:Nat}(hs:Bh es)(hp:Bh pe)(hb:∀x∈es++pe,(tL x).length<1099511627776)(h0:qm P0)(h1:qm P1)(ho:P0.length=oN fr)(hn:fr+pe.length=n)(hn1:1<=n)(hn2:n<=es.length)
  (hv:vpN (Fa (sx fr P0 (oO pe))) (root (oO es)) n es.length P1=true) (c1:∀i∈B9 (oO es),i∈C) (c2:∀i∈B9 ((oO es).take n),i∈C) (c3:∀i∈NP fr P0 (oO pe),i∈C) (c4:∀i∈Zs (sx fr P0 (oO pe)),i∈C)
  (c5:∀i∈(yI n es.length true (Fa (sx fr P0 (oO pe))) P1.reverse).1,i∈C) (c6:∀x∈es,mY 8 [tL x]∈C) (c7:∀x∈pe,mY 8 [tL x]∈C):pe=(es.drop fr).take pe.length:=by
 have lD:(oO es).length=es.length:=List.length_map _;have lE:(oO pe).length=pe.length:=List.length_map _;have hA16:qm (sx fr P0 (oO pe)):=Dg h0;have hAl:(sx fr P0 (oO pe)).length=oN n:=by rw[yM _ ho,lE,hn]
 have hAp:0<(sx fr P0 (oO pe)).length:=by rw[hAl];exact Fx hn1
 have lT:(Fa (sx fr P0 (oO pe))).length=16:=vC hA16 hAp _;have hrl:=sH (oO es);have ld:((oO es).take n).length=n:=by rw[List.length_take];omega
 rw[Re hn1 hn2] at hv;simp only[Bool.and_eq_true,decide_eq_true_eq] at hv;obtain⟨⟨v1,v2⟩,v3⟩:=hv;obtain⟨w1,w2⟩:=L0 (Fa (sx fr P0 (oO pe))) P1.reverse n es.length true v1;have hpr:=MM hf lT P1.reverse n es.length true (oO es) (E1 h1) hn1 hn2 lD v1 c5 c1 (w2.trans v3);have htop:Fa (sx fr P0 (oO pe))=root ((oO es).take n):=by rw[<-hpr,w1,v2]
 have hpow:es.length<2^es.length:=Nat.lt_two_pow_self;have hpk:=z3E hf es.length ((oO es).take n) (sx fr P0 (oO pe)) hA16 (by omega) (by omega) (by rw[hAl,ld]) c4 c2 htop;have hfull:((oO es).take n).take (fr+(oO pe).length)=(oO es).take n:=by rw[lE,hn,List.take_take,Nat.min_self]
 have hinv:=ZN hf (K:=es.length) (d:=(oO es).take n) (by omega) (sD (λd hd=>by
  obtain⟨x,_,rfl⟩:=List.mem_map.1 hd;exact pG _ _) n) c2 (oO pe) fr P0 (by omega) h0 (λd hd=>by
  obtain⟨x,_,rfl⟩:=List.mem_map.1 hd;exact pG _ _) ho c3 (by rw[hfull];exact hpk)
 have hd:=hinv.1;rw[lE,List.drop_take,List.take_take,Nat.min_eq_left (by omega)] at hd;have hd2:oO pe=oO ((es.drop fr).take pe.length):=by rw[hd,oO,oO,List.map_take,List.map_drop]
 refine Lh (f:=λx=>bh 8 [tL x]) (λx hx y hy h=> ?_) hd2;have hy':y∈es:=List.mem_of_mem_drop (List.mem_of_mem_take hy);have e1:=hf _ (c7 x hx) _ (c6 y hy') h;exact XY (hp x hx) (hs y hy') (Xu (hb x (by simp[hx])) (hb y (by simp[hy'])) e1)
def Bo:List (List UInt8×List UInt8)->List UInt8->Option (List UInt8)
 |[],_=>none
 |p::m,d=>match Bo m d with|some x=>some x|none=>if p.1=d then some p.2 else none
def z3wa(D:DataW Unit):Prop:=∃es,D= .map es
theorem z8f{D:DataW Unit}(h:z3wa D)(k:Lit)(v:DataW Unit):z3wa (D.put k v):=by obtain⟨es,rfl⟩:=h;exact⟨_,rfl⟩
theorem Mg(d:List UInt8):∀(m:List (List UInt8×List UInt8)) (D:DataW Unit),z3wa D->(∀z,(m.foldl (λD p=>D.put (.string p.1) (.lit (.string p.2))) D).atKey (.string d) z=match Bo m d with|some x=> .lit (.string x)|none=>D.atKey (.string d) z)∧Maps.has (m.foldl (λD p=>D.put (.string p.1) (.lit (.string p.2))) D) (.string d)=((Bo m d).isSome||Maps.has D (.string d))
 |[],D,_=>⟨λz=>rfl,by simp[Bo]⟩
 |p::m,D,hD=>by
  obtain⟨h1,h2⟩:=Mg d m _ (z8f hD (.string p.1) (.lit (.string p.2)));refine⟨λz=> ?_,?_⟩
  ·rw[List.foldl_cons,h1 z,Bo];cases Bo m d with
   |some x=>rfl
   |none=>
    by_cases c:p.1=d
    ·rw[if_pos c,<-c];exact Maps.atKey_put_same (k:= .string p.1) hD trivial _ _
    rw[if_neg c];exact Maps.atKey_put_other (λe=>c (by injection e with e;exact e.symm)) _ _
  rw[List.foldl_cons,h2,Bo];cases Bo m d with
  |some x=>rfl
  |none=>
   by_cases c:p.1=d
   ·rw[if_pos c,<-c];simp[Maps.has_put_same hD (k:= .string p.1) trivial]
   rw[if_neg c];rw[Maps.has_put_other (λe=>c (by injection e with e;exact e.symm))]
theorem z1da(m:List (List UInt8×List UInt8))(d:List UInt8):(mpD m).atKey (.string d) (.lit (.string []))= .lit (.string ((Bo m d).getD [])):=by rw[mpD,(Mg d m (.map []) ⟨_,rfl⟩).1];cases Bo m d<;>rfl
theorem z1N(m:List (List UInt8×List UInt8))(d:List UInt8):Maps.has (mpD m) (.string d)=(Bo m d).isSome:=by rw[mpD,(Mg d m (.map []) ⟨_,rfl⟩).2];simp[Maps.has_eq]
def G9(C:List (List UInt8)):List (List UInt8×List UInt8):=C.map λx=>(cT x,x)
theorem NN{d:List UInt8}:∀{C:List (List UInt8)},Bo (G9 C) d=none->∀y∈C,cT y≠d
 |[],_,y,hy=>by cases hy
 |x::C,h,y,hy=>by
  simp only[G9,List.map_cons,Bo] at h;cases h1:Bo (G9 C) d with
  |some z=>rw[show List.map (λx=>(cT x,x)) C=G9 C from rfl,h1] at h;cases h
  |none=>
   rw[show List.map (λx=>(cT x,x)) C=G9 C from rfl,h1] at h;rcases List.mem_cons.1 hy with rfl|hy
   ·intro e;simp[e] at h
   exact NN h1 y hy
theorem Kg{d z:List UInt8}:∀{C:List (List UInt8)},Bo (G9 C) d=some z->z∈C∧cT z=d
 |[],h=>by cases h
 |x::C,h=>by
  simp only[G9,List.map_cons,Bo] at h;cases h1:Bo (G9 C) d with
  |some y=>rw[show List.map (λx=>(cT x,x)) C=G9 C from rfl,h1] at h;cases h;exact⟨List.mem_cons_of_mem _ (Kg h1).1,(Kg h1).2⟩
  |none=>
   rw[show List.map (λx=>(cT x,x)) C=G9 C from rfl,h1] at h;simp only at h;split at h
   ·cases h;rename_i e;exact⟨List.mem_cons_self,e⟩
   cases h
def hit(C:List (List UInt8))(x:List UInt8):Bool:=match Bo (G9 C) (cT x) with|some y=> !(y==x)|none=>false
def DG(s:List (List UInt8)×Bool)(x:List UInt8):List (List UInt8)×Bool:=(s.1++[x],if hit s.1 x then true else s.2)
def qS(s:List (List UInt8)×Bool)(I:List (List UInt8)):List (List UInt8)×Bool:=I.foldl DG s
theorem Dn(s:List (List UInt8)×Bool):qS s []=s:=rfl
theorem Gs(s:List (List UInt8)×Bool)(x:List UInt8)(I:List (List UInt8)):qS s (x::I)=qS (DG s x) I:=rfl
theorem Ag(s:List (List UInt8)×Bool)(I J:List (List UInt8)):qS s (I++J)=qS (qS s I) J:=List.foldl_append
theorem EC(s:List (List UInt8)×Bool)(I:List (List UInt8))(x:List UInt8):qS s (I++[x])=DG (qS s I) x:=by rw[Ag];rfl
theorem Y6(I:List (List UInt8)):∀s,(qS s I).1=s.1++I:=by
 induction I with
 |nil=>intro s;simp[Dn]
 |cons x I ih=>intro s;rw[Gs,ih];simp[DG]
theorem Ab(s:List (List UInt8)×Bool)(I:List (List UInt8)):(qS s I).1.length=s.1.length+I.length:=by rw[Y6,List.length_append]
theorem UW(I:List (List UInt8)):∀s:List (List UInt8)×Bool,(s.2=false->Xm s.1)->(qS s I).2=false->Xm (s.1++I):=by
 induction I with
 |nil=>intro s h h2;rw[List.append_nil];exact h h2
 |cons x I ih=>
  intro s h h2;have key:(DG s x).2=false->Xm (DG s x).1:=λh3=>by
   simp only[DG] at h3⊢;by_cases c:hit s.1 x=true
   ·rw[if_pos c] at h3;cases h3
   rw[if_neg c] at h3;have hf:=h h3;have hx:∀y∈s.1,cT y=cT x->y=x:=λy hy e=>by
    unfold hit at c;cases hl:Bo (G9 s.1) (cT x) with
    |none=>exact absurd e (NN hl y hy)
    |some z=>
     rw[hl] at c;obtain⟨k1,k2⟩:=Kg hl;have k3:z=x:=by simpa using c
     rw[hf y hy z k1 (by rw[e,k2]),k3]
   intro u hu v hv e;rcases List.mem_append.1 hu with hu|hu
   ·rcases List.mem_append.1 hv with hv|hv
    ·exact hf u hu v hv e
    rw[List.mem_singleton.1 hv] at e⊢;exact hx u hu e
   rw[List.mem_singleton.1 hu] at e⊢;rcases List.mem_append.1 hv with hv|hv
   ·exact(hx v hv e.symm).symm
   rw[List.mem_singleton.1 hv]
  have:=ih (DG s x) key h2;simpa[DG] using this
def hA(s:List (List UInt8)×Bool):List oH:=[.mp (G9 s.1),bo s.2]
def gH(v:oH):List (List UInt8)×Bool:=match v with| .ep [.mp m,.lit (.bool c)]=>(m.map (·.2),c)|_=>([],false)
@[simp] theorem SV(s:List (List UInt8)×Bool):gH (.ep (hA s))=s:=by obtain⟨C,c⟩:=s;show(((C.map λx=>(cT x,x)).map (·.2)),c)=(C,c);rw[List.map_map,show((λp:List UInt8×List UInt8=>p.2)∘λx=>(cT x,x))=id from rfl,List.map_id]
@[simp] theorem z2va(s:List (List UInt8)×Bool):au (hA s)=true:=rfl
@[simp] theorem z7sa(s:List (List UInt8)×Bool):pT (hA s)=[]:=rfl
@[simp] theorem ren_hA(r:List (Nat×Nat))(s:List (List UInt8)×Bool):renL r (hA s)=hA s:=rfl
def Ks:CM:=⟨[0],[],λds=>∃(s:List (List UInt8)×Bool) (nl:Option Bool) (x:List UInt8),s.1.length<=1000000000∧x.length<=1000000000000∧ds=[.ep (hA s),.sl .plain nl x.length (bys x)],
 λds=> .agg (bys (cT (gBs (gCs (nth ds 1))))),λds _=>hA (DG (gH (nth ds 0)) (gBs (gCs (nth ds 1))))⟩
@[simp] theorem z1Z:Ks.bx=[0]:=rfl
@[simp] theorem z7da:Ks.nb=[]:=rfl
theorem Kc{s:List (List UInt8)×Bool}{nl:Option Bool}{n:Nat}{x:List UInt8}(h:s.1.length<=1000000000)(hx:x.length<=1000000000000)(hn:n=x.length):Ks.pre [.ep (hA s),.sl .plain nl n (bys x)]=True:=eq_true ⟨s,nl,x,h,hx,by rw[hn]⟩
@[simp] theorem z2i(v:oH)(m:cH)(nl:Option Bool)(n:Nat)(x:List UInt8):Ks.post [v,.sl m nl n (bys x)]= .agg (bys (cT x)):=by simp[Ks,nth,gCs]
@[simp] theorem z3P(s:List (List UInt8)×Bool)(m:cH)(nl:Option Bool)(n:Nat)(x:List UInt8)(j:Nat):Ks.out [.ep (hA s),.sl m nl n (bys x)] j=hA (DG s x):=by show hA (DG (gH (.ep (hA s))) (gBs (bys x)))=_;rw[SV];simp
def vh:av:=
 Yq (.block 1 (YR [3,6,7,8,9,11,108,109,110] [.norm [2,3,5,11,106]] [Yi 112 30 108 110,YJ 113 30 112,Yo 11 (.alloc 11 (List.replicate 10 (i64 0)++[st []]++[.sl .plain none 0 []]++bys (bF 16)++[.sl (.own 24) none 0 []]++[.sl (.own 1) none 0 []])),Ys 30 11 11 113] (.region [3,6,7,8,9,108,109,110] [.norm [2,3,5,11,106]] [YM 114 9,Ym 115 8,YL 116 30 11 11,Yo 117 (.callm 397 none [.s 115,.s 116] [(0,106)] []),YQ 118 117,YN 119 16 16 114 118,YM 9 119]))) (.region [3,6,7,8,9,108,109,110] [.drop [11]] [YB 120 .add 110 1,Ym 110 120])
def ro:av:=
 Yr [3,6,7,8,9,108,109,110,111] [Yb 111 .lss 110 109] (Yq (Yd 111 (Yy [3,6,7,8,9,108,109,110]) (YY [3,6,7,8,9])) vh)
def sM:av:=
 YR [3,6,7,8,9] [.norm [2,3,5,11,106]] [Ym 121 8,Ym 122 9,Yo 123 (.callm 398 none [.s 121,.s 122] [(0,106)] [])] (YR [3,6,8] [.norm [2,3,5,11,106]] [Ym 124 8,YM 125 9,Ym 126 7,YX 127 16 125 126,Yo 128 (.callm 398 none [.s 124,.s 127] [(0,106)] [])] (YR [8] [.norm [2,3,5,11,106]] [Ym 129 8,YL 130 3 3 3,Ym 131 6,Yo 132 (.callm 399 none [.s 129,.s 130,.s 131] [(0,106)] [])] (YR [4] [.norm [2,3,5,11,106]] [YT 133 391 [],Ym 134 133,YG 134 (Ym 135 8),YG 134 (YV 136 135),YG 134 (Yf 137 1 136),YG 134 (Yl 138 106 137),Yp 139 134 138,Ym 4 139] .ret)))
def sL:av:=
 YR [2,3,6,7,8] [.norm [2,3,5,106]] [Yo 104 .mkmap,Yo 105 (.buildO [.lit (.map none),bo false] 104),Yo 106 (.boxO 106 105),Ym 8 106] (Yr [2,3,6,7,8,9] [Yv 9 16] (Yq (YR [3,6,7,8,9,108,109,110] [.norm [2,3,5,106]] [Yf 107 2 2,Yl 108 2 107,Yn 109 108,Yc 110 0] (.block 0 (.loop ro))) sM))
def ve:av:=
 Yq (YR [2,3,6,7,103] [.norm [2,3,5]] [YL 99 16 5 5,Ym 100 6,YL 101 3 3 3,Yt 102 387 99 100 101,YB 103 .neq 102 0] (Yd 103 (Yr [4] [Yw 4 false] .ret) (Yy [2,3,6,7]))) sL
def sK:av:=
 Yq (YR [2,3,5,6,7,97] [.norm [2,3,5]] [Yf 89 1 3,Yl 90 3 89,Yf 91 2 2,Yl 92 2 91,Yf 93 0 3,Yl 94 3 93,Ym 95 7,Yo 96 (.slSl 30 (.s 92) (some (.s 94)) (some (.s 95)) none),YK 97 376 90 96] (Yd 97 (Yr [4] [YT 98 391 [],Ym 4 98] .ret) (Yy [2,3,5,6,7]))) ve
def sN:av:=
 YR [2,3,5,6,7] [.norm [2,3,5]] [Yf 63 0 3,Yl 64 3 63,Yf 65 1 3,Yl 66 3 65,Yn 67 66,Yb 68 .add 64 67,Ym 7 68] (Yq (YR [2,3,5,6,7,88] [.norm [2,3,5]] [Yf 69 0 3,Yl 70 3 69,YB 71 .lss 70 0,Ym 72 71,Yg 72 (Ym 73 7),Yg 72 (Ym 74 6),Yg 72 (Yb 75 .gtr 73 74),YP 76 72 75,Ym 77 76,Yg 77 (Yf 78 2 3),Yg 77 (Yl 79 3 78),Yg 77 (Yn 80 79),Yg 77 (YB 81 .neq 80 2),YP 82 77 81,Ym 83 82,Yg 83 (Yf 84 1 3),Yg 83 (Yl 85 3 84),Yg 83 (Yn 86 85),Yg 83 (YB 87 .eql 86 0),YP 88 83 87] (Yd 88 (Yr [4] [Yw 4 false] .ret) (Yy [2,3,5,6,7]))) sK)
def sO:av:=
 YR [2,3,5,6] [.norm [2,3,5]] [YL 39 3 2 2,Yk 40 355 39,YL 41 3 2 2,Yk 42 349 41,Yz 5 5 16,Ys 16 5 5 40,Ym 6 42] (Yq (YR [2,3,5,6,54] [.norm [2,3,5]] [Ym 43 6,Yf 44 2 2,Yl 45 2 44,Yn 46 45,Yb 47 .neq 43 46,Ym 48 47,Yg 48 (YL 49 16 5 5),Yg 48 (Ym 50 6),Yg 48 (YL 51 3 3 3),Yg 48 (Yt 52 363 49 50 51),Yg 48 (YB 53 .neq 52 0),YP 54 48 53] (Yd 54 (YR [4] [.norm [2,3,5]] [YT 55 391 [],Ym 56 55,YG 56 (Ym 57 6),YG 56 (Yf 58 2 2),YG 56 (Yl 59 2 58),YG 56 (Yn 60 59),YG 56 (Yb 61 .eql 57 60),Yp 62 56 61,Ym 4 62] .ret) (Yy [2,3,5,6]))) sN)
def oR:nH:=
 {n:=2,wr:=[],res:=[.t 4],body:=YR [2,3] [.norm [2,3]] [Yx 2 2 3 0,Yx 3 3 3 1,Yw 4 false] (Yq (YR [2,3,37] [.norm [2,3]] [Yf 12 2 2,Yl 13 2 12,Yk 14 389 13,YU 15 .not 14,Ym 16 15,Yg 16 (Yf 17 1 3),Yg 16 (Yl 18 3 17),Yg 16 (Yk 19 389 18),Yg 16 (YU 20 .not 19),YP 21 16 20,Ym 22 21,Yg 22 (YL 23 3 3 3),Yg 22 (Yk 24 395 23),Yg 22 (YB 25 .gtr 24 200),YP 26 22 25,Ym 27 26,Yg 27 (YL 28 3 2 2),Yg 27 (Yk 29 390 28),Yg 27 (YU 30 .not 29),YP 31 27 30,Ym 32 31,Yg 32 (Yf 33 0 2),Yg 32 (Yf 34 0 33),Yg 32 (Yl 35 2 34),Yg 32 (YB 36 .gtr 35 0),YP 37 32 36] (Yd 37 (Yr [4] [YT 38 391 [],Ym 4 38] .ret) (Yy [2,3]))) sO)}
def pt:nH:=
 {n:=2,wr:=[],res:=[.cell 4 (some 16) 4],body:=YR [0,3,4] [.norm [0,3,4]] [Yx 3 3 30 1,Yz 4 4 16] (YR [0,4] [.norm [0,3,4]] [Ym 5 0,YL 6 30 3 3,Yk 7 333 6,Yo 8 (.buildSl 1 1 [st []] [(0,1,.s 7)]),Yo 9 (.call 21 [.c (i64 8),.s 8] []),Yo 10 (.callm 401 none [.s 5,.s 9] [(0,0)] []),Ys 16 4 4 10] .ret)}
def rZ:av:=
 Yr [0,1,4,5] [Ym 20 1,Yn 21 20,Yk 22 195 21,Ym 5 22] (YR [0,4] [.norm [0,4]] [Ym 23 0,Ym 24 0,Ym 25 1,Ym 26 5,YX 27 16 25 26,Yo 28 (.callm 398 none [.s 24,.s 27] [(0,0)] []),Ym 29 0,Ym 30 1,Ym 31 5,YF 32 16 30 31,Yo 33 (.callm 398 none [.s 29,.s 32] [(0,0)] []),Yo 34 (.callm 403 none [.s 23,.s 28,.s 33] [(0,0)] []),Ys 16 4 4 34] .ret)
def o9:nH:=
 {n:=2,wr:=[],res:=[.cell 4 (some 16) 4],body:=YR [0,1,4] [.norm [0,4]] [Yz 4 4 16] (Yq (Yr [0,1,4,7] [Ym 6 1,Yn 7 6] (.block 0 (Yr [0,1,4,7,8] [YB 9 .eql 7 0,Ym 8 9] (Yd 8 (YR [0,4] [.norm [0,4]] [Ym 10 0,Yo 11 (.call 21 [.c (i64 1),.c (.lit (.slice none 0 0))] []),Yo 12 (.callm 401 none [.s 10,.s 11] [(0,0)] []),Ys 16 4 4 12] .ret) (Yr [0,1,4,13] [YB 14 .eql 7 1,Ym 13 14] (Yd 13 (YR [0,4] [.norm [0,4]] [Ym 15 0,YM 16 1,YI 17 16 16 0,YJ 18 16 17,Yo 19 (.callm 402 none [.s 15,.s 18] [(0,0)] []),Ys 16 4 4 19] .ret) (Yy [0,1,4]))))))) rZ)}
def tP:av:=
 Yq (.block 3 (YR [0,2,4,6,7,10,11,28,29,30] [.norm [0,4,9,10]] [Ym 45 0,Ym 46 6,Ym 47 6,Yn 48 47,YB 49 .sub 48 1,Yi 50 16 46 49,Yo 51 (.loadP 16 6 (.s 50)),YL 52 16 10 10,Yo 53 (.callm 403 none [.s 45,.s 51,.s 52] [(0,0)] []),Ys 16 10 10 53] (Yu [0,2,4,6,7,10,11,28,29,30] [YM 54 6,Ym 55 6,Yn 56 55,YB 57 .sub 56 1,Yo 58 (.slP 16 54 (.s 57)),YM 6 58]))) (Yu [0,2,4,6,7,10,11,28,29,30] [Ym 43 11,YB 44 .quo 43 2,Ym 11 44])
def qC:av:=
 Yq (Yr [0,2,4,6,7,10,11,28,29,30,42] [Ym 40 11,YB 41 .rem 40 2,YB 42 .eql 41 1] (Yd 42 (Yy [0,2,4,6,7,10,11,28,29,30]) (.ghost (.keep [0,2,4,6,7,10,28,29,30]) (.exit 2)))) tP
def rN:av:=
 YR [0,2,4,6,7,28,29,30] [.norm [0,4,9,10]] [YM 59 6,YL 60 16 10 10,YQ 61 60,Yo 62 (.appendP 16 16 59 (.s 61)),YM 6 62] (Yu [0,2,4,6,7,28,29,30] [Ym 63 7,YB 64 .add 63 1,Ym 7 64])
def tR:av:=
 Yq (.block 1 (YR [0,2,4,6,7,9,28,29,30] [.norm [0,4,9]] [Yi 32 30 28 30,YJ 33 30 32,Yo 9 (.alloc 9 (List.replicate 10 (i64 0)++[st []]++[.sl .plain none 0 []]++bys (bF 16)++[.sl (.own 24) none 0 []]++[.sl (.own 1) none 0 []])),Ys 30 9 9 33] (YR [0,2,4,6,7,10,28,29,30] [.norm [0,4,9,10]] [Ym 34 0,Ym 35 0,YL 36 30 9 9,Yo 37 (.callm 397 none [.s 35,.s 36] [(0,0)] []),Yo 38 (.callm 402 none [.s 34,.s 37] [(0,0)] []),Yz 10 10 16,Ys 16 10 10 38] (Yq (Yr [0,2,4,6,7,10,11,28,29,30] [Ym 39 7,Ym 11 39] (.nm 6 (.ghost (.keep [0,2,4,6,7,10,11,28,29,30]) (.block 2 (.loop qC))))) rN)))) (.region [0,2,4,6,7,28,29,30] [.drop [9,10]] [YB 65 .add 30 1,Ym 30 65])
def qB:av:=
 Yr [0,2,4,6,7,28,29,30,31] [Yb 31 .lss 30 29] (Yq (Yd 31 (Yy [0,2,4,6,7,28,29,30]) (YY [0,2,4,6,7])) tR)
def tN:av:=
 Yq (.block 5 (.region [0,2,4,6,7,12,13] [.norm [0,4,9,10,12]] [Ym 79 0,Ym 80 6,Ym 81 13,Yi 82 16 80 81,Yo 83 (.loadP 16 6 (.s 82)),YL 84 16 12 12,Yo 85 (.callm 403 none [.s 79,.s 83,.s 84] [(0,0)] []),Ys 16 12 12 85])) (Yu [0,2,4,6,7,12,13] [Ym 77 13,YB 78 .sub 77 1,Ym 13 78])
def rO:av:=
 Yq (Yr [0,2,4,6,7,12,13,76] [Ym 75 13,YB 76 .geq 75 0] (Yd 76 (Yy [0,2,4,6,7,12,13]) (.ghost (.keep [0,2,4,7,12]) (.exit 4)))) tN
def tO:av:=
 Yq (.block 7 (YR [0,18,98,99,100] [.norm [0,4,9,10,12,15,16]] [Yi 102 1 98 100,Yj 103 102,YM 18 103] (.region [0,98,99,100] [.norm [0,4,9,10,12,15,16]] [Ym 104 0,YM 105 18,Yo 106 (.callm 401 none [.s 104,.s 105] [(0,0)] [])]))) (Yu [0,98,99,100] [YB 107 .add 100 1,Ym 100 107])
def qw:av:=
 Yr [0,98,99,100,101] [Yb 101 .lss 100 99] (Yq (Yd 101 (Yy [0,98,99,100]) (.ghost (.keep [0]) (.exit 6))) tO)
def rP:av:=
 YR [0,14] [.norm [0,4,9,10,12,15,16]] [YL 87 16 12 12,Ym 88 7,Ym 89 2,Yf 90 2 4,Yl 91 4 90,YI 92 1 91 1,Yj 93 92,Yo 94 (.call 208 [.s 87,.s 88,.s 89,.c (bo true),.s 93] []),Ym 86 94,Ye 95 0 86,Ye 96 1 86,Ye 97 2 86,Yz 15 15 16,Yz 16 16 16,Ym 14 95,Ys 16 15 15 96,Ys 16 16 16 97] (Yr [0,98,99,100] [YM 98 14,Yn 99 98,Yc 100 0] (.block 6 (.loop qw)))
def qA:av:=
 YR [0,2,4,6,7,12] [.norm [0,4,9,10,12]] [Ym 66 6,Ym 67 6,Yn 68 67,YB 69 .sub 68 1,Yi 70 16 66 69,Yo 71 (.loadP 16 6 (.s 70)),Yz 12 12 16,Ys 16 12 12 71] (Yq (Yr [0,2,4,6,7,12,13] [Ym 72 6,Yn 73 72,YB 74 .sub 73 2,Ym 13 74] (.block 4 (.loop rO))) rP)
def pu:nH:=
 {n:=3,wr:=[],res:=[],body:=YR [0,2,4] [.norm [0,4]] [Yx 4 4 3 1] (YR [0,2,4,6] [.norm [0,4]] [Yo 19 (.buildSl 16 0 [] []),Yf 20 2 4,Yl 21 4 20,YI 22 1 21 0,Yj 23 22,Yo 24 (.appendP 16 16 19 (.s 23)),YM 6 24] (YR [0,2,4,6,7] [.norm [0,4]] [Yf 25 0 4,Yl 26 4 25,Ym 7 26] (Yq (YR [0,2,4,6,7,28,29,30] [.norm [0,4]] [Yf 27 1 4,Yl 28 4 27,Yn 29 28,Yc 30 0] (.block 0 (.loop qB))) (.nm 6 qA))))}
def pE:nH:=
 {n:=2,wr:=[],res:=[.cell 4 (some 16) 4],body:=YR [0,3,4] [.norm [0,3,4]] [Yx 3 3 16 1,Yz 4 4 16] (YR [0,4] [.norm [0,3,4]] [Ym 5 0,YL 6 16 3 3,Yk 7 23 6,Yo 8 (.buildSl 1 1 [st []] [(0,1,.s 7)]),Yo 9 (.call 21 [.c (i64 1),.s 8] []),Yo 10 (.callm 401 none [.s 5,.s 9] [(0,0)] []),Ys 16 4 4 10] .ret)}
def pD:nH:=
 {n:=3,wr:=[],res:=[.cell 6 (some 16) 6],body:=YR [0,4,5,6] [.norm [0,4,5,6]] [Yx 4 4 16 1,Yx 5 5 16 2,Yz 6 6 16] (YR [0,6] [.norm [0,4,5,6]] [Ym 7 0,YL 8 16 4 4,Yk 9 23 8,YL 10 16 5 5,Yk 11 23 10,Yo 12 (.buildSl 1 2 [st [],st []] [(0,1,.s 9),(1,1,.s 11)]),Yo 13 (.call 21 [.c (i64 2),.s 12] []),Yo 14 (.callm 401 none [.s 7,.s 13] [(0,0)] []),Ys 16 6 6 14] .ret)}
end Go.Abs