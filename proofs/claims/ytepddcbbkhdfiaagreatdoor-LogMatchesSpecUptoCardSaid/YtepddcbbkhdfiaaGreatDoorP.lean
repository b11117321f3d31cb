/- Lemmas: an abstract interpreter, and what the functions compute. -/
import Derived.Test.YtepddcbbkhdfiaaGreatDoorH
import Derived.Test.YtepddcbbkhdfiaaGreatDoorG
set_option linter.unusedSimpArgs false
set_option linter.unusedVariables false
set_option linter.unusedSectionVars false
section
namespace Go.Abs
set_option maxRecDepth 100000
def z6xa:z1ka:=
 {n:=1,wr:=[],res:=[.t 2],body:=YR [1] [.norm [1]] [Yx 1 1 3 0,Yc 2 0] (YR [2] [.norm [1]] [Yf 3 0 1,Yf 4 0 3,Yl 5 1 4,Yf 6 2 1,Yl 7 1 6,Yn 8 7,Yb 9 .add 5 8,Ym 2 9] .ret)}
def z9Ka:z1c:=
 Yq (.block 1 (YR [2,3,5,46] [.norm [2,3]] [Yf 35 2 2,Yl 36 2 35,Ym 37 5,Yi 38 1 36 37,Yj 39 38,Yf 40 2 3,Yl 41 3 40,Ym 42 5,Yi 43 1 41 42,Yj 44 43,YK 45 60 39 44,YU 46 .not 45] (Yd 46 (Yr [4] [Yw 4 false] .ret) (Yy [2,3,5])))) (Yu [2,3,5] [Ym 33 5,YB 34 .add 33 1,Ym 5 34])
def z7Da:z1c:=
 Yq (YR [2,3,5,32] [.norm [2,3]] [Ym 28 5,Yf 29 2 2,Yl 30 2 29,Yn 31 30,Yb 32 .lss 28 31] (Yd 32 (Yy [2,3,5]) (YY []))) z9Ka
def z5Za:z1c:=
 Yr [4] [Yw 4 true] .ret
def z8Za:z1c:=
 Yq (Yr [2,3,5] [Yc 5 0] (.block 0 (.loop z7Da))) z5Za
def z0ra:z1ka:=
 {n:=2,wr:=[],res:=[.t 4],body:=YR [2,3] [.norm [2,3]] [Yx 2 2 3 0,Yx 3 3 3 1,Yw 4 false] (Yq (YR [2,3,27] [.norm [2,3]] [Yf 6 0 2,Yl 7 2 6,Yf 8 0 3,Yl 9 3 8,Yb 10 .neq 7 9,Ym 11 10,Yg 11 (Yf 12 2 2),Yg 11 (Yl 13 2 12),Yg 11 (Yn 14 13),Yg 11 (Yf 15 2 3),Yg 11 (Yl 16 3 15),Yg 11 (Yn 17 16),Yg 11 (Yb 18 .neq 14 17),YP 19 11 18,Ym 20 19,Yg 20 (Yf 21 1 2),Yg 20 (Yl 22 2 21),Yg 20 (Yf 23 1 3),Yg 20 (Yl 24 3 23),Yg 20 (YK 25 376 22 24),Yg 20 (YU 26 .not 25),YP 27 20 26] (Yd 27 (Yr [4] [Yw 4 false] .ret) (Yy [2,3]))) z8Za)}
def z1Ha:z1c:=
 YR [2,3,4,8] [.norm [2,3,4,8],.reB 8 2 (some 30),.norm [2,3,4,8]] [Yf 36 0 2,YL 37 2 2 36,Yo 38 (.build [i64 0,.sl .plain none 0 [],.sl .plain (some true) 0 []] [(0,2,.s 37)]),Yh 8 8,Ys 3 8 8 38] (YR [3,4,8] [.norm [2,3,4,8]] [Yf 39 2 8,Yo 40 (.load none (some 8) true (.s 39)),Yf 41 2 2,Yl 42 2 41,YN 43 30 184 40 42,Yf 44 2 8,YO (.store none 8 true (.s 44) (.s 43))] (YR [4,8] [.norm [2,3,4,8],.reB 8 2 none,.norm [2,3,4,8]] [Yf 45 2 8,Yo 46 (.load none (some 8) true (.s 45)),YL 47 30 3 3,Yo 48 (.buildSl 30 1 [i64 0,i64 0,i64 0,i64 0,i64 0,i64 0,i64 0,i64 0,i64 0,i64 0,st [],.sl .plain none 0 [],u8 0,u8 0,u8 0,u8 0,u8 0,u8 0,u8 0,u8 0,u8 0,u8 0,u8 0,u8 0,u8 0,u8 0,u8 0,u8 0,.sl .plain none 0 [],.sl .plain none 0 []] [(0,30,.s 47)]),YN 49 30 184 46 48,Yf 50 2 8,YO (.store none 8 true (.s 50) (.s 49))] (YR [4,5] [.norm [2,3,4,8]] [YL 51 3 8 8,Ys 3 4 4 51,Yc 5 0] .ret)))
def z1Ba:z1c:=
 Yq (YR [2,3,4,34] [.norm [2,3,4]] [Ym 21 7,YB 22 .gtr 21 0,Ym 23 22,YG 23 (Yf 24 0 3),YG 23 (Yl 25 3 24),YG 23 (Yf 26 2 2),YG 23 (Yl 27 2 26),YG 23 (Ym 28 7),YG 23 (YB 29 .sub 28 1),YG 23 (Yi 30 30 27 29),YG 23 (Yf 31 0 30),YG 23 (Yj 32 31),YG 23 (Yb 33 .lss 25 32),Yp 34 23 33] (Yd 34 (YR [4,5] [.norm [2,3,4]] [Yo 35 (.build [i64 0,.sl .plain none 0 [],.sl .plain none 0 []] []),Ys 3 4 4 35,Yc 5 20] .ret) (Yy [2,3,4]))) z1Ha
def z0Ba:z1c:=
 YR [2,3,4,7] [.norm [2,3,4]] [Yf 14 2 2,Yl 15 2 14,Yn 16 15,Ym 7 16] (Yq (YR [2,3,4,7,19] [.norm [2,3,4]] [YL 17 3 2 2,Yk 18 375 17,YB 19 .geq 18 65536] (Yd 19 (YR [4,5] [.norm [2,3,4]] [Yo 20 (.build [i64 0,.sl .plain none 0 [],.sl .plain none 0 []] []),Ys 3 4 4 20,Yc 5 2] .ret) (Yy [2,3,4,7]))) z1Ba)
def z6sa:z1ka:=
 {n:=2,wr:=[],res:=[.cell 4 (some 3) 4,.t 5],body:=YR [2,3,4] [.norm [2,3,4]] [Yx 2 2 3 0,Yx 3 3 30 1,Yh 4 4,Yc 5 0] (YR [2,3,4,6] [.norm [2,3,4]] [YL 9 30 3 3,Yk 10 331 9,Ym 6 10] (Yq (Yr [2,3,4,12] [Ym 11 6,YU 12 .not 11] (Yd 12 (YR [4,5] [.norm [2,3,4]] [Yo 13 (.build [i64 0,.sl .plain none 0 [],.sl .plain none 0 []] []),Ys 3 4 4 13,Yc 5 1] .ret) (Yy [2,3,4]))) z0Ba))}
def z3Ua:z1c:=
 YR [3,6,8] [.norm [3,6,8]] [YL 31 3 3 3,Ym 32 1,YK 33 379 31 32,Ym 30 33,Ye 34 0 30,Ye 35 1 30,YH 8 8,Ys 2 8 8 34,Ym 9 35] (YR [3,6,8,10] [.norm [3,6,8]] [YL 37 3 3 3,Ym 38 2,YK 39 380 37 38,Ym 36 39,Ye 40 0 36,Ye 41 1 36,YM 10 40,Ym 11 41] (YR [3,6,12] [.norm [3,6,8,12],.reB 12 1 (some 30),.norm [3,6,8,12]] [Ym 42 1,Yf 43 1 8,Yl 44 8 43,YM 45 10,Yo 46 (.buildSl 1 2 [.sl .plain none 0 [],.sl .plain none 0 []] [(0,1,.s 44),(1,1,.s 45)]),Yo 47 (.build [i64 0,.sl .plain (some true) 0 [],.sl .plain none 0 []] [(0,1,.s 42),(2,1,.s 46)]),Yh 12 12,Ys 3 12 12 47] (YR [6,12] [.norm [3,6,8,12],.reB 12 1 none,.norm [3,6,8,12]] [Yf 48 1 12,Yo 49 (.load none (some 12) true (.s 48)),Yf 50 2 3,Yl 51 3 50,Ym 52 1,Yf 53 0 3,Yf 54 0 53,Yl 55 3 54,Yb 56 .sub 52 55,Ym 57 2,Yf 58 0 3,Yf 59 0 58,Yl 60 3 59,Yb 61 .sub 57 60,Yo 62 (.slSl 30 (.s 51) (some (.s 56)) (some (.s 61)) none),YN 63 30 184 49 62,Yf 64 1 12,YO (.store none 12 true (.s 64) (.s 63))] (YR [6,7] [.norm [3,6,8,12]] [YL 65 3 12 12,Ys 3 6 6 65,Yc 7 0] .ret))))
def z9sa:z1ka:=
 {n:=3,wr:=[],res:=[.cell 6 (some 3) 6,.t 7],body:=YR [3,6] [.norm [3,6]] [Yx 3 3 3 0,Yh 6 6,Yc 7 0] (Yq (YR [3,6,28] [.norm [3,6]] [Ym 13 1,Yf 14 0 3,Yf 15 0 14,Yl 16 3 15,Yb 17 .lss 13 16,Ym 18 17,Yg 18 (Ym 19 1),Yg 18 (Ym 20 2),Yg 18 (Yb 21 .geq 19 20),YP 22 18 21,Ym 23 22,Yg 23 (Ym 24 2),Yg 23 (YL 25 3 3 3),Yg 23 (Yk 26 375 25),Yg 23 (Yb 27 .gtr 24 26),YP 28 23 27] (Yd 28 (YR [6,7] [.norm [3,6]] [Yo 29 (.build [i64 0,.sl .plain none 0 [],.sl .plain none 0 []] []),Ys 3 6 6 29,Yc 7 11] .ret) (Yy [3,6]))) z3Ua)}
def z7Pa:z1c:=
 YR [2,6] [.norm [2,6]] [YL 24 3 2 2,Ym 25 1,YK 26 379 24 25,Ym 23 26,Ye 27 0 23,Ye 28 1 23,YH 6 6,Ys 2 6 6 27,Ym 7 28] (YR [4,5] [.norm [2,6]] [YL 29 3 2 2,Yk 30 375 29,Ym 31 1,Yf 32 1 6,Yl 33 6 32,Yf 34 2 2,Yl 35 2 34,Ym 36 1,Yf 37 0 2,Yf 38 0 37,Yl 39 2 38,Yb 40 .sub 36 39,YF 41 30 35 40,Yk 42 382 41,Yo 43 (.call 383 [.s 30,.s 31,.c (bo true),.s 33,.s 42] []),Ym 4 43,Yc 5 0] .ret)
def z9ra:z1ka:=
 {n:=2,wr:=[],res:=[.t 4,.t 5],body:=YR [2] [.norm [2]] [Yx 2 2 3 0,Yv 4 16,Yc 5 0] (Yq (YR [2,22] [.norm [2]] [Ym 8 1,YB 9 .lss 8 1,Ym 10 9,Yg 10 (Ym 11 1),Yg 10 (Yf 12 0 2),Yg 10 (Yf 13 0 12),Yg 10 (Yl 14 2 13),Yg 10 (Yb 15 .lss 11 14),YP 16 10 15,Ym 17 16,Yg 17 (Ym 18 1),Yg 17 (YL 19 3 2 2),Yg 17 (Yk 20 375 19),Yg 17 (Yb 21 .gtr 18 20),YP 22 17 21] (Yd 22 (Yr [4,5] [Yv 4 16,Yc 5 11] .ret) (Yy [2]))) z7Pa)}
def z5ua:z1ka:=
 {n:=2,wr:=[],res:=[.t 4],body:=YR [2,3] [.norm [2,3]] [Yx 2 2 3 0,Yx 3 3 3 1,Yw 4 false] (YR [4] [.norm [2,3]] [Yf 5 0 2,YL 6 2 2 5,Yf 7 0 3,YL 8 2 3 7,YK 9 209 6 8,Ym 10 9,YG 10 (Yf 11 2 2),YG 10 (Yl 12 2 11),YG 10 (Yf 13 2 3),YG 10 (Yl 14 3 13),YG 10 (YK 15 376 12 14),Yp 16 10 15,Ym 4 16] .ret)}
def z7Va:z1c:=
 Yq (.block 1 (.region [4,6,7,8] [.norm [2,4,7]] [YL 48 2 7 7,Ym 49 6,Ym 50 8,Yi 51 16 49 50,YJ 52 16 51,YK 53 212 48 52,Ym 47 53,Ye 54 0 47,Ye 55 1 47,Ys 2 7 7 54])) (Yu [4,6,7,8] [Ym 45 8,YB 46 .add 45 1,Ym 8 46])
def z2Ja:z1c:=
 Yq (Yr [4,6,7,8,44] [Ym 41 8,Ym 42 6,Yn 43 42,Yb 44 .lss 41 43] (Yd 44 (Yy [4,6,7,8]) (YY [4,7]))) z7Va
def z1Ya:z1c:=
 YR [4,5] [.norm [2,4,7]] [YL 56 2 7 7,Ys 2 4 4 56,Yc 5 0] .ret
def z2Xa:z1c:=
 YR [2,4,6] [.norm [2,4]] [Yf 21 2 2,Yl 22 2 21,Ym 23 1,Yf 24 0 2,Yf 25 0 24,Yl 26 2 25,Yb 27 .sub 23 26,YX 28 30 22 27,Yk 29 382 28,YM 6 29] (YR [2,4,6,7] [.norm [2,4,7],.reB 7 1 (some 16),.norm [2,4,7]] [Yf 30 0 2,Yf 31 0 30,Yl 32 2 31,Yo 33 (.build [i64 0,.sl .plain (some true) 0 []] [(0,1,.s 32)]),YH 7 7,Ys 2 7 7 33] (YR [4,6,7] [.norm [2,4,7],.reB 7 1 none,.norm [2,4,7]] [Yf 34 1 7,Yo 35 (.load none (some 7) true (.s 34)),Yf 36 0 2,Yf 37 1 36,Yl 38 2 37,YN 39 16 16 35 38,Yf 40 1 7,YO (.store none 7 true (.s 40) (.s 39))] (Yq (Yr [4,6,7,8] [Yc 8 0] (.block 0 (.loop z2Ja))) z1Ya)))
def z4ra:z1ka:=
 {n:=2,wr:=[],res:=[.cell 4 (some 2) 4,.t 5],body:=YR [2,4] [.norm [2,4]] [Yx 2 2 3 0,YH 4 4,Yc 5 0] (Yq (YR [2,4,19] [.norm [2,4]] [Ym 9 1,Yf 10 0 2,Yf 11 0 10,Yl 12 2 11,Yb 13 .lss 9 12,Ym 14 13,Yg 14 (Ym 15 1),Yg 14 (YL 16 3 2 2),Yg 14 (Yk 17 375 16),Yg 14 (Yb 18 .gtr 15 17),YP 19 14 18] (Yd 19 (YR [4,5] [.norm [2,4]] [Yo 20 (.build [i64 0,.sl .plain none 0 []] []),Ys 2 4 4 20,Yc 5 11] .ret) (Yy [2,4]))) z2Xa)}
def z3Za:z1c:=
 YR [2,4,8] [.norm [2,4,6,8],.reB 8 2 (some 30),.norm [2,4,6,8]] [YL 19 2 6 6,Yo 20 (.build [i64 0,.sl .plain none 0 [],.sl .plain (some true) 0 []] [(0,2,.s 19)]),Yh 8 8,Ys 3 8 8 20] (YR [4,8] [.norm [2,4,6,8],.reB 8 2 none,.norm [2,4,6,8]] [Yf 21 2 8,Yo 22 (.load none (some 8) true (.s 21)),Yf 23 2 2,Yl 24 2 23,Ym 25 1,Yf 26 0 2,Yf 27 0 26,Yl 28 2 27,Yb 29 .sub 25 28,YF 30 30 24 29,YN 31 30 184 22 30,Yf 32 2 8,YO (.store none 8 true (.s 32) (.s 31))] (YR [4,5] [.norm [2,4,6,8]] [YL 33 3 8 8,Ys 3 4 4 33,Yc 5 0] .ret))
def z9xa:z1ka:=
 {n:=2,wr:=[],res:=[.cell 4 (some 3) 4,.t 5],body:=YR [2,4] [.norm [2,4]] [Yx 2 2 3 0,Yh 4 4,Yc 5 0] (YR [2,4,6,7] [.norm [2,4,6]] [YL 10 3 2 2,Ym 11 1,YK 12 379 10 11,Ym 9 12,Ye 13 0 9,Ye 14 1 9,YH 6 6,Ys 2 6 6 13,Ym 7 14] (Yq (Yr [2,4,6,7,16] [Ym 15 7,YB 16 .neq 15 0] (Yd 16 (YR [4,5] [.norm [2,4,6]] [Yo 17 (.build [i64 0,.sl .plain none 0 [],.sl .plain none 0 []] []),Ym 18 7,Ys 3 4 4 17,Ym 5 18] .ret) (Yy [2,4,6]))) z3Za))}
def z2xa:z1ka:=
 {n:=1,wr:=[],res:=[.cell 2 (some 16) 2],body:=YR [1,2] [.norm [1,2]] [Yx 1 1 3 0,Yz 2 2 16] (YR [2,3] [.norm [1,2,3]] [YL 8 3 1 1,YL 9 3 1 1,Yk 10 375 9,YK 11 379 8 10,Ym 7 11,Ye 12 0 7,Ye 13 1 7,YH 3 3,Ys 2 3 3 12,Ym 4 13] (YR [2,5] [.norm [1,2,3,5]] [YL 15 2 3 3,Yk 16 213 15,Ym 14 16,Ye 17 0 14,Ye 18 1 14,Yz 5 5 16,Ys 16 5 5 17,Ym 6 18] (YR [2] [.norm [1,2,3,5]] [YL 19 16 5 5,Ys 16 2 2 19] .ret)))}
def z6Ba:z1c:=
 Yq (.block 1 (Yr [5,6] [Ym 18 0,Ym 19 5,Yi 20 30 18 19,YJ 21 30 20,Ym 22 1,Ym 23 5,Yi 24 30 22 23,YJ 25 30 24,YK 26 329 21 25,Ym 6 26] (Yr [5,28] [Ym 27 6,YU 28 .not 27] (Yd 28 (Yr [4] [Yw 4 false] .ret) (Yy [5]))))) (Yu [5] [Ym 16 5,YB 17 .add 16 1,Ym 5 17])
def z9wa:z1c:=
 Yq (Yr [5,15] [Ym 12 5,Ym 13 0,Yn 14 13,Yb 15 .lss 12 14] (Yd 15 (Yy [5]) (YY []))) z6Ba
def z7Ja:z1c:=
 Yr [4] [Yw 4 true] .ret
def z4Ka:z1c:=
 Yq (Yr [5] [Yc 5 0] (.block 0 (.loop z9wa))) z7Ja
def z4qa:z1ka:=
 {n:=2,wr:=[],res:=[.t 4],body:=Yr [] [Yw 4 false] (Yq (Yr [11] [Ym 7 0,Yn 8 7,Ym 9 1,Yn 10 9,Yb 11 .neq 8 10] (Yd 11 (Yr [4] [Yw 4 false] .ret) (Yy []))) z4Ka)}
def z96a:z1c:=
 Yr [10] [Ym 18 3,Yk 19 388 18,YQ 20 19,YM 10 20] .ret
def z54a:z1c:=
 Yr [13] [Ym 45 0,Ym 46 11,Yb 47 .sub 45 46,Ym 48 1,Ym 49 11,Yb 50 .sub 48 49,Ym 51 3,Yo 52 (.slSl 16 (.s 51) (some (.c (i64 1))) none none),Ym 53 4,Yo 54 (.call 383 [.s 47,.s 50,.c (bo false),.s 52,.s 53] []),YM 13 54] (Yr [10] [YM 55 13,Ym 56 3,YI 57 16 56 0,YJ 58 16 57,YQ 59 58,YN 60 16 16 55 59,YM 10 60] .ret)
def z8Ma:z1c:=
 Yr [11] [Ym 21 0,Yk 22 195 21,Ym 11 22] (Yq (Yr [11,25] [Ym 23 1,Ym 24 11,Yb 25 .leq 23 24] (Yd 25 (Yr [11,12] [Ym 26 11,Ym 27 1,Ym 28 2,Ym 29 3,Ym 30 4,Ym 31 11,Ym 32 1,Yb 33 .sub 31 32,YX 34 16 30 33,YT 35 383 [26,27,28,29,34],YM 12 35] (Yr [10] [YM 36 12,Ym 37 4,Ym 38 11,Ym 39 1,Yb 40 .sub 38 39,YF 41 16 37 40,Yk 42 197 41,YQ 43 42,YN 44 16 16 36 43,YM 10 44] .ret)) (Yy [11]))) z54a)
def z7ra:z1ka:=
 {n:=5,wr:=[],res:=[.t 10],body:=Yr [] [Yv 10 16] (Yq (Yr [16] [Ym 14 1,Ym 15 0,Yb 16 .eql 14 15] (Yd 16 (Yq (Yr [17] [Ym 17 2] (Yd 17 (Yr [10] [Yv 10 16] .ret) (Yy []))) z96a) (Yy []))) z8Ma)}
def z0Qa:z1c:=
 Yq (.block 1 (Yu [3,4] [YM 11 3,Ym 12 0,Ym 13 4,Yi 14 30 12 13,YJ 15 30 14,Yk 16 334 15,YQ 17 16,YN 18 16 16 11 17,YM 3 18])) (Yu [3,4] [Ym 9 4,YB 10 .add 9 1,Ym 4 10])
def z1Fa:z1c:=
 Yq (Yr [3,4,8] [Ym 5 4,Ym 6 0,Yn 7 6,Yb 8 .lss 5 7] (Yd 8 (Yy [3,4]) (YY [3]))) z0Qa
def z9Pa:z1c:=
 Yr [2] [YM 19 3,YM 2 19] .ret
def z1sa:z1ka:=
 {n:=1,wr:=[],res:=[.t 2],body:=Yr [] [Yv 2 16] (Yr [3] [Yv 3 16] (Yq (Yr [3,4] [Yc 4 0] (.block 0 (.loop z1Fa))) z9Pa))}
def z47a:z1c:=
 Yq (.block 1 (.region [2,3,4] [.norm [2,3]] [Ym 18 0,Ym 19 4,Yi 20 16 18 19,YJ 21 16 20,Yk 22 23 21,YL 23 16 3 3,Yk 24 23 23,Yo 25 (.buildSl 1 2 [st [],st []] [(0,1,.s 22),(1,1,.s 24)]),Yo 26 (.call 20 [.c (i64 2),.s 25] []),Ys 16 3 3 26])) (Yu [2,3,4] [Ym 16 4,YB 17 .sub 16 1,Ym 4 17])
def z6Na:z1c:=
 Yq (Yr [2,3,4,15] [Ym 14 4,YB 15 .geq 14 0] (Yd 15 (Yy [2,3,4]) (YY [2,3]))) z47a
def z45a:z1c:=
 YR [2] [.norm [2,3]] [YL 27 16 3 3,Ys 16 2 2 27] .ret
def z5Ba:z1ka:=
 {n:=1,wr:=[],res:=[.cell 2 (some 16) 2],body:=YR [2] [.norm [2]] [Yz 2 2 16] (YR [2,3] [.norm [2,3]] [Ym 5 0,Ym 6 0,Yn 7 6,YB 8 .sub 7 1,Yi 9 16 5 8,YJ 10 16 9,Yz 3 3 16,Ys 16 3 3 10] (Yq (Yr [2,3,4] [Ym 11 0,Yn 12 11,YB 13 .sub 12 2,Ym 4 13] (.block 0 (.loop z6Na))) z45a))}
end Go.Abs
end

section
namespace Go.Abs
set_option maxRecDepth 100000
def z4La:z1c:=
 Yq (.block 1 (Yr [5,25] [Ym 17 0,Ym 18 5,Yi 19 16 17 18,YJ 20 16 19,Ym 21 1,Ym 22 5,Yi 23 16 21 22,YJ 24 16 23,Yo 25 (.eqF (ks8 16) true (.s 20) (.s 24))] (Yd 25 (Yr [4] [Yw 4 false] .ret) (Yy [5])))) (Yu [5] [Ym 15 5,YB 16 .add 15 1,Ym 5 16])
def z8Da:z1c:=
 Yq (Yr [5,14] [Ym 11 5,Ym 12 0,Yn 13 12,Yb 14 .lss 11 13] (Yd 14 (Yy [5]) (YY []))) z4La
def z9Ya:z1c:=
 Yr [4] [Yw 4 true] .ret
def z7Ya:z1c:=
 Yq (Yr [5] [Yc 5 0] (.block 0 (.loop z8Da))) z9Ya
def z0va:z1ka:=
 {n:=2,wr:=[],res:=[.t 4],body:=Yr [] [Yw 4 false] (Yq (Yr [10] [Ym 6 0,Yn 7 6,Ym 8 1,Yn 9 8,Yb 10 .neq 7 9] (Yd 10 (Yr [4] [Yw 4 false] .ret) (Yy []))) z7Ya)}
def z8Ya:z1c:=
 Yr [2,3] [Ym 15 0,Yn 16 15,Yk 17 195 16,Ym 3 17] (YR [2] [.norm [2]] [Ym 18 0,Ym 19 3,YX 20 16 18 19,Yk 21 197 20,Ym 22 0,Ym 23 3,YF 24 16 22 23,Yk 25 197 24,YK 26 202 21 25,Ys 16 2 2 26] .ret)
def z5La:z1c:=
 Yq (Yr [2,10] [Ym 8 0,Yn 9 8,YB 10 .eql 9 1] (Yd 10 (YR [2] [.norm [2]] [Ym 11 0,YI 12 16 11 0,YJ 13 16 12,Yk 14 201 13,Ys 16 2 2 14] .ret) (Yy [2]))) z8Ya
def z7sa:z1ka:=
 {n:=1,wr:=[],res:=[.cell 2 (some 16) 2],body:=YR [2] [.norm [2]] [Yz 2 2 16] (Yq (Yr [2,6] [Ym 4 0,Yn 5 4,YB 6 .eql 5 0] (Yd 6 (YR [2] [.norm [2]] [Yo 7 (.call 20 [.c (i64 1),.c (.lit (.slice none 0 0))] []),Ys 16 2 2 7] .ret) (Yy [2]))) z5La)}
def z2sa:z1ka:=
 {n:=2,wr:=[],res:=[.t 4],body:=YR [2,3] [.norm [2,3]] [Yx 2 2 2 0,Yx 3 3 2 1,Yw 4 false] (YR [2,3,5] [.norm [2,3]] [Yf 6 1 2,Yl 7 2 6,Yf 8 1 3,Yl 9 3 8,YK 10 200 7 9,Ym 5 10] (YR [4] [.norm [2,3]] [Ym 11 5,Ym 12 11,YG 12 (Yf 13 0 2),YG 12 (Yl 14 2 13),YG 12 (Yf 15 0 3),YG 12 (Yl 16 3 15),YG 12 (Yb 17 .eql 14 16),Yp 18 12 17,Ym 4 18] .ret))}
def z37a:z1c:=
 .block 1 (Yr [2,4,6,7,8] [Ym 29 8,YB 30 .sub 29 1,Ym 8 30] (YR [2,4,6,7,8] [.norm [2,3,4,6]] [Yf 31 1 2,Yl 32 2 31,Ym 33 8,Yi 34 16 32 33,YJ 35 16 34,YL 36 16 6 6,YK 37 202 35 36,Ys 16 6 6 37] (Yu [2,4,6,7,8] [Ym 38 7,YB 39 .quo 38 2,Ym 7 39])))
def z5Na:z1c:=
 Yq (Yr [2,4,6,7,8,28] [Ym 26 7,YB 27 .rem 26 2,YB 28 .eql 27 1] (Yd 28 (Yy [2,4,6,7,8]) (YY [2,4,6,8]))) z37a
def z1Na:z1c:=
 YR [2,4,6,8,9] [.norm [2,3,4,6,9],.reB 9 1 (some 16),.norm [2,3,4,6,9]] [Yf 40 0 2,Yl 41 2 40,YB 42 .add 41 1,Yo 43 (.build [i64 0,.sl .plain (some true) 0 []] [(0,1,.s 42)]),Yo 9 (.alloc 9 [i64 0,.sl (.own 16) none 0 []]),Ys 2 9 9 43] (YR [4,6,9] [.norm [2,3,4,6,9]] [Yf 44 1 9,Yo 45 (.load none (some 9) true (.s 44)),Yf 46 1 2,Yl 47 2 46,Ym 48 8,YX 49 16 47 48,YN 50 16 16 45 49,Yf 51 1 9,YO (.store none 9 true (.s 51) (.s 50))] (YR [4,9] [.norm [2,3,4,6,9],.reB 9 1 none,.norm [2,3,4,6,9]] [Yf 52 1 9,Yo 53 (.load none (some 9) true (.s 52)),YL 54 16 6 6,YQ 55 54,YN 56 16 16 53 55,Yf 57 1 9,YO (.store none 9 true (.s 57) (.s 56))] (YR [4,5] [.norm [2,3,4,6,9]] [YL 58 2 9 9,Ys 2 4 4 58,Yc 5 0] .ret)))
def z55a:z1c:=
 YR [2,4,6] [.norm [2,3,4,6]] [YL 19 16 3 3,Yk 20 201 19,Yz 6 6 16,Ys 16 6 6 20] (YR [2,4,6,7] [.norm [2,3,4,6]] [Yf 21 0 2,Yl 22 2 21,Ym 7 22] (YR [2,4,6,7,8] [.norm [2,3,4,6]] [Yf 23 1 2,Yl 24 2 23,Yn 25 24,Ym 8 25] (Yq (.block 0 (.loop z5Na)) z1Na)))
def z7ua:z1ka:=
 {n:=2,wr:=[],res:=[.cell 4 (some 2) 4,.t 5],body:=YR [2,3,4] [.norm [2,3,4]] [Yx 2 2 2 0,Yx 3 3 16 1,Yo 4 (.alloc 4 [i64 0,.sl (.own 16) none 0 []]),Yc 5 0] (Yq (YR [2,3,4,17] [.norm [2,3,4]] [YL 10 2 2 2,Yk 11 211 10,YU 12 .not 11,Ym 13 12,Yg 13 (Yf 14 0 2),Yg 13 (Yl 15 2 14),Yg 13 (YB 16 .eql 15 4294967296),YP 17 13 16] (Yd 17 (YR [4,5] [.norm [2,3,4]] [Yo 18 (.build [i64 0,.sl .plain none 0 []] []),Ys 2 4 4 18,Yc 5 1] .ret) (Yy [2,3,4]))) z55a)}
def z24a:z1c:=
 Yq (.block 1 (.region [1,2,4,5] [.norm [1,2,4]] [Yf 31 1 1,Yl 32 1 31,Ym 33 5,Yi 34 16 32 33,YJ 35 16 34,YL 36 16 4 4,YK 37 202 35 36,Ys 16 4 4 37])) (Yu [1,2,4,5] [Ym 29 5,YB 30 .sub 29 1,Ym 5 30])
def z4Ma:z1c:=
 Yq (Yr [1,2,4,5,28] [Ym 27 5,YB 28 .geq 27 0] (Yd 28 (Yy [1,2,4,5]) (YY [2,4]))) z24a
def z93a:z1c:=
 YR [2,3] [.norm [1,2,4]] [YL 38 16 4 4,Ys 16 2 2 38,Yc 3 0] .ret
def z36a:z1c:=
 YR [1,2,4] [.norm [1,2,4]] [Yf 15 1 1,Yl 16 1 15,Yf 17 1 1,Yl 18 1 17,Yn 19 18,YB 20 .sub 19 1,Yi 21 16 16 20,YJ 22 16 21,Yz 4 4 16,Ys 16 4 4 22] (Yq (YR [1,2,4,5] [.norm [1,2,4]] [Yf 23 1 1,Yl 24 1 23,Yn 25 24,YB 26 .sub 25 2,Ym 5 26] (.block 0 (.loop z4Ma))) z93a)
def z7Ma:z1c:=
 Yq (YR [1,2,13] [.norm [1,2]] [Yf 10 1 1,Yl 11 1 10,Yn 12 11,YB 13 .eql 12 0] (Yd 13 (YR [2,3] [.norm [1,2]] [Yo 14 (.call 20 [.c (i64 1),.c (.lit (.slice none 0 0))] []),Ys 16 2 2 14,Yc 3 0] .ret) (Yy [1,2]))) z36a
def z6ua:z1ka:=
 {n:=1,wr:=[],res:=[.cell 2 (some 16) 2,.t 3],body:=YR [1,2] [.norm [1,2]] [Yx 1 1 2 0,Yz 2 2 16,Yc 3 0] (Yq (YR [1,2,8] [.norm [1,2]] [YL 6 2 1 1,Yk 7 211 6,YU 8 .not 7] (Yd 8 (YR [2,3] [.norm [1,2]] [Yo 9 (.build (bys (z5j 16)) []),Ys 16 2 2 9,Yc 3 1] .ret) (Yy [1,2]))) z7Ma)}
def z7Wa:z1c:=
 .block 1 (Yu [3] [Ym 9 3,Yo 10 (.bin .mul (.c (i64 2)) (.s 9)),Ym 3 10])
def z8Ia:z1c:=
 Yq (Yr [3,8] [Ym 4 3,Ym 5 0,Ym 6 3,Yb 7 .sub 5 6,Yb 8 .lss 4 7] (Yd 8 (Yy [3]) (YY [3]))) z7Wa
def z6Wa:z1c:=
 Yr [2] [Ym 11 3,Ym 2 11] .ret
def z3za:z1ka:=
 {n:=1,wr:=[],res:=[.t 2],body:=Yr [] [Yc 2 0] (Yr [3] [Yc 3 1] (Yq (.block 0 (.loop z8Ia)) z6Wa))}
def z5xa:z1ka:=
 {n:=1,wr:=[],res:=[.cell 2 (some 16) 2],body:=YR [1,2] [.norm [1,2]] [Yx 1 1 16 0,Yz 2 2 16] (YR [2] [.norm [1,2]] [YL 3 16 1 1,Yk 4 23 3,Yo 5 (.buildSl 1 1 [st []] [(0,1,.s 4)]),Yo 6 (.call 20 [.c (i64 1),.s 5] []),Ys 16 2 2 6] .ret)}
def z1xa:z1ka:=
 {n:=2,wr:=[],res:=[.cell 4 (some 16) 4],body:=YR [2,3,4] [.norm [2,3,4]] [Yx 2 2 16 0,Yx 3 3 16 1,Yz 4 4 16] (YR [4] [.norm [2,3,4]] [YL 5 16 2 2,Yk 6 23 5,YL 7 16 3 3,Yk 8 23 7,Yo 9 (.buildSl 1 2 [st [],st []] [(0,1,.s 6),(1,1,.s 8)]),Yo 10 (.call 20 [.c (i64 2),.s 9] []),Ys 16 4 4 10] .ret)}
def z2ra:z1ka:=
 {n:=1,wr:=[],res:=[.t 2],body:=YR [1] [.norm [1]] [Yx 1 1 2 0,Yw 2 false] (YR [2] [.norm [1]] [Yf 3 0 1,Yl 4 1 3,YB 5 .geq 4 0,Ym 6 5,YG 6 (Yf 7 0 1),YG 6 (Yl 8 1 7),YG 6 (YB 9 .leq 8 4294967296),Yp 10 6 9,Ym 11 10,YG 11 (Yf 12 1 1),YG 11 (Yl 13 1 12),YG 11 (Yn 14 13),YG 11 (Yf 15 0 1),YG 11 (Yl 16 1 15),YG 11 (Yk 17 214 16),YG 11 (Yb 18 .eql 14 17),Yp 19 11 18,Ym 2 19] .ret)}
def z10a:z1c:=
 .block 1 (Yr [0,3] [Ym 6 3,Ym 7 0,YB 8 .rem 7 2,Yb 9 .add 6 8,Ym 3 9] (Yu [0,3] [Ym 10 0,YB 11 .quo 10 2,Ym 0 11]))
def z6Ka:z1c:=
 Yq (Yr [0,3,5] [Ym 4 0,YB 5 .gtr 4 0] (Yd 5 (Yy [0,3]) (YY [3]))) z10a
def z1Za:z1c:=
 Yr [2] [Ym 12 3,Ym 2 12] .ret
def z3xa:z1ka:=
 {n:=1,wr:=[0],res:=[.t 2],body:=Yr [0] [Yc 2 0] (Yr [0,3] [Yc 3 0] (Yq (.block 0 (.loop z6Ka)) z1Za))}
end Go.Abs
end
