/- Lemmas: an abstract interpreter, and what the functions compute. -/
import Derived.Test.YtepddcbbkhdfiaaGreatDoorI
import Derived.Test.YtepddcbbkhdfiaaGreatDoorK
import Derived.Test.YtepddcbbkhdfiaaGreatDoorU
import Derived.Test.YtepddcbbkhdfiaaGreatDoorJ
import Derived.Test.YtepddcbbkhdfiaaGreatDoorH
import Derived.KernelRfl
import Derived.Test.YtepddcbbkhdfiaaGreatDoorS
import Derived.Test.YtepddcbbkhdfiaaGreatDoorR
set_option linter.unusedSimpArgs false
set_option linter.unusedVariables false
set_option linter.unusedSectionVars false
section
namespace Go.Abs
set_option maxRecDepth 100000
def z6Ka:z3a:=
 Yd 20 (.region [2,4] [.norm [2,13]] [Ym 21 5,Yo 22 (.idxSl 1 (.s 21) (.c (i64 0))),Yj 23 22,Ym 24 5,Yo 25 (.idxSl 1 (.s 24) (.c (i64 1))),Yj 26 25,Ym 27 5,Yo 28 (.idxSl 1 (.s 27) (.c (i64 2))),Yj 29 28,Ym 30 5,Yo 31 (.idxSl 1 (.s 30) (.c (i64 3))),Yj 32 31,Yo 33 (.build (List.replicate 10 (i64 0)++[st []]++[.sl .plain none 0 []]++bys (z9c 16)++[.sl .plain (some true) 0 []]++[.sl .plain none 0 []]) [(0,1,.s 23),(1,1,.s 26),(2,1,.s 29),(3,1,.s 32)]),Ys 30 2 2 33]) (Yy [2,4])
def z1Da:z3a:=
 Yd 53 (Yy [2,4,7,8]) (YY [2,4])
def z4Aa:z3a:=
 Yd 70 (.region [2,4,7,8] [.norm [2,13]] [Yf 71 28 2,Yo 72 (.load none (some 2) true (.s 71)),Ym 73 9,Yo 74 (.idxSl 1 (.s 73) (.c (i64 0))),Yj 75 74,Ym 76 9,Yo 77 (.idxSl 1 (.s 76) (.c (i64 1))),Yj 78 77,Ym 79 9,Yo 80 (.idxSl 1 (.s 79) (.c (i64 2))),Yj 81 80,Ym 82 9,Yo 83 (.idxSl 1 (.s 82) (.c (i64 3))),Yj 84 83,Ym 85 9,Yo 86 (.idxSl 1 (.s 85) (.c (i64 4))),Yj 87 86,Ym 88 9,Yo 89 (.idxSl 1 (.s 88) (.c (i64 5))),Yj 90 89,Ym 91 9,Yo 92 (.idxSl 1 (.s 91) (.c (i64 6))),Yj 93 92,Ym 94 9,Yo 95 (.idxSl 1 (.s 94) (.c (i64 7))),Yj 96 95,YB 97 .eql 96 1,Ym 98 4,Yo 99 (.callm 325 none [.s 98,.c (.fn 320 [] [])] [(0,13)] []),Yo 100 (.build (List.replicate 7 (i64 0)++[bo false]++bys (z9c 16)) [(0,1,.s 75),(1,1,.s 78),(2,1,.s 81),(3,1,.s 84),(4,1,.s 87),(5,1,.s 90),(6,1,.s 93),(7,1,.s 97),(8,16,.s 99)]),Yo 101 (.buildSl 24 1 [i64 0,i64 0,i64 0,i64 0,i64 0,i64 0,i64 0,bo false,u8 0,u8 0,u8 0,u8 0,u8 0,u8 0,u8 0,u8 0,u8 0,u8 0,u8 0,u8 0,u8 0,u8 0,u8 0,u8 0] [(0,24,.s 100)]),Yo 102 (.append 24 80 false none none 72 (.s 101)),Yf 103 28 2,YS 2 103 102]) (Yy [2,4,7,8])
def z6Da:z3a:=
 YR [2,4,7,8,9,70] [.norm [2,13],.reB 2 28 (some 24),.norm [2,13]] [Ym 58 4,Ym 59 9,Yn 60 59,YB 61 .eql 60 8,Yo 62 (.callm 316 none [.s 58,.s 61,.c (i64 6)] [(0,13)] []),Ym 63 62,YG 63 (Ym 64 4),YG 63 (Ym 65 9),YG 63 (Yo 66 (.idxSl 1 (.s 65) (.c (i64 7)))),YG 63 (Yj 67 66),YG 63 (Yo 68 (.call 295 [.s 67,.c (i64 0),.c (i64 1)] [])),YG 63 (Yo 69 (.callm 316 none [.s 64,.s 68,.c (i64 6)] [(0,13)] [])),Yp 70 63 69] z4Aa
def z5Ca:z3a:=
 Yq (.block 1 (YR [2,4,7,8,9] [.norm [2,13]] [Ym 56 4,Yo 57 (.callm 323 none [.s 56,.c (.fn 52 [] [])] [(0,13)] []),YM 9 57] z6Da)) (Yu [2,4,7,8] [Ym 54 8,YB 55 .add 54 1,Ym 8 55])
def z3Ga:z3a:=
 Yq (YR [2,4,7,8,53] [.norm [2,13]] [Ym 45 4,Ym 46 7,Yo 47 (.call 295 [.s 46,.c (i64 0),.c (i64 4096)] []),Yo 48 (.callm 316 none [.s 45,.s 47,.c (i64 6)] [(0,13)] []),Ym 49 48,YG 49 (Ym 50 8),YG 49 (Ym 51 7),YG 49 (Yb 52 .lss 50 51),Yp 53 49 52] z1Da) z5Ca
def z6La:z3a:=
 .block 0 (.loop z3Ga)
def z7Ea:z3a:=
 Yd 119 (YR [2,3] [.norm [2,13]] [Yo 120 (.build (List.replicate 10 (i64 0)++[st []]++[.sl .plain none 0 []]++bys (z9c 16)++[.sl .plain none 0 []]++[.sl .plain none 0 []]) []),Ym 121 4,Yo 122 (.nilchk (.s 121)),Yf 123 1 122,Yl 124 13 123,Ys 30 2 2 120,Ym 3 124] .ret) (Yy [2])
def z2Ba:z3a:=
 YR [2,3] [.norm [2,13]] [YL 125 30 2 2,Ys 30 2 2 125,Yc 3 0] .ret
def z9Ba:z3a:=
 Yq (YR [2,4,119] [.norm [2,13]] [Ym 107 4,Ym 108 4,Yo 109 (.nilchk (.s 108)),Yf 110 0 109,Yl 111 13 110,Yn 112 111,YB 113 .eql 112 0,Ym 114 113,YG 114 (YL 115 30 2 2),YG 114 (Yk 116 300 115),Yp 117 114 116,Yo 118 (.callm 316 none [.s 107,.s 117,.c (i64 6)] [(0,13)] []),Yo 119 (.un .not (.s 118))] z7Ea) z2Ba
def z8Ea:z3a:=
 YR [2,4] [.norm [2,13]] [Ym 104 4,Yo 105 (.callm 323 none [.s 104,.c (.fn 52 [] [])] [(0,13)] []),Yf 106 29 2,YO (.store none 2 true (.s 106) (.s 105))] z9Ba
def z3Ma:z3a:=
 Yq (Yr [2,4,7,8] [Yc 8 0] z6La) z8Ea
def z7La:z3a:=
 YR [2,4,7] [.norm [2,13]] [Ym 43 4,Yo 44 (.callm 326 none [.s 43,.c (.fn 45 [] [])] [(0,13)] []),Ym 7 44] z3Ma
def z5Ha:z3a:=
 YR [2,4] [.norm [2,13]] [Ym 40 4,Yo 41 (.callm 325 none [.s 40,.c (.fn 320 [] [])] [(0,13)] []),Yf 42 12 2,Ys 16 2 42 41] z7La
def z5Ka:z3a:=
 YR [2,4] [.norm [2,13]] [Ym 36 4,Ym 37 6,Yo 38 (.callm 318 none [.s 36,.s 37] [(0,13)] []),Yf 39 4 2,Ys 8 2 39 38] z5Ha
def z5La:z3a:=
 YR [2,4,6] [.norm [2,13]] [Ym 34 4,Yo 35 (.callm 324 none [.s 34,.c (.fn 48 [] [])] [(0,13)] []),Ym 6 35] z5Ka
def z9Ga:z3a:=
 Yq (YR [2,4,5,20] [.norm [2,13]] [Ym 16 4,Ym 17 5,Yn 18 17,YB 19 .eql 18 4,Yo 20 (.callm 316 none [.s 16,.s 19,.c (i64 6)] [(0,13)] [])] z6Ka) z5La
def z3Ia:z3a:=
 YR [2,4,5] [.norm [2,13]] [Ym 14 4,Yo 15 (.callm 323 none [.s 14,.c (.fn 52 [] [])] [(0,13)] []),YM 5 15] z9Ga
def z7Ja:z3a:=
 YR [2,4] [.norm [2,13]] [Ym 10 0,Yo 11 (.toBytes (.s 10)),Yo 12 (.build [.sl .plain none 0 [],i64 0] [(0,1,.s 11)]),Yx 13 13 2 12,Ym 4 13] z3Ia
def z44a:z6e:=
 {n:=1,wr:=[],res:=[.cell 2 (some 30) 2,.t 3],body:=YR [2] [.norm [2]] [Yo 2 (.alloc 2 (List.replicate 10 (i64 0)++[st []]++[.sl .plain none 0 []]++bys (z9c 16)++[.sl (.own 24) none 0 []]++[.sl (.own 1) none 0 []])),Yc 3 0] z7Ja}
def z3U:z3a:=
 Yd 12 (Yr [0,4] [YM 13 4,YM 4 13] .ret) (Yy [0,1,4])
def z3W:z3a:=
 Yr [0,4] [YM 30 4,YM 4 30] .ret
def z8V:z3a:=
 Yd 25 (YR [0,4] [.norm [0]] [Ym 26 0,Ym 27 7,Yo 28 (.nilchk (.s 26)),Yf 29 1 28,YS 0 29 27] z3W) (Yy [0,5,6])
def z7V:z3a:=
 Yr [0,4] [YM 40 5,YM 4 40] .ret
def z0V:z3a:=
 YR [0,5] [.norm [0]] [Ym 31 0,Ym 32 0,Yo 33 (.nilchk (.s 32)),Yf 34 0 33,Yl 35 0 34,Ym 36 6,Yo 37 (.slSl 1 (.s 35) (some (.s 36)) none none),Yo 38 (.nilchk (.s 31)),Yf 39 0 38,YO (.store none 0 true (.s 39) (.s 37))] z7V
def z1V:z3a:=
 Yq (Yr [0,4,5,6,7,25] [Ym 24 7,YB 25 .neq 24 0] z8V) z0V
def z7W:z3a:=
 YR [0,4,5,6,7] [.norm [0]] [Ym 15 1,Ym 16 0,Yo 17 (.nilchk (.s 16)),Yf 18 0 17,Yl 19 0 18,Yo 20 (.callv 52 (.s 15) [.s 19] []),Ym 14 20,Ye 21 0 14,Ye 22 1 14,Ye 23 2 14,YM 5 21,Ym 6 22,Ym 7 23] z1V
def z5W:z3a:=
 Yq (YR [0,1,4,12] [.norm [0]] [Ym 8 0,Yo 9 (.nilchk (.s 8)),Yf 10 1 9,Yl 11 0 10,YB 12 .neq 11 0] z3U) z7W
def z1m:z6e:=
 {n:=2,wr:=[],res:=[.t 4],body:=Yr [0,1,4] [Yo 4 (.mv true (.c (.sl (.own 1) none 0 [])))] z5W}
def z0ia:z3a:=
 Yd 15 (.region [0] [.norm [0]] [Ym 16 0,Ym 17 2,Yo 18 (.nilchk (.s 16)),Yf 19 1 18,YS 0 19 17]) (Yy [0])
def z5ga:z3a:=
 YR [0,6] [.norm [0]] [Ym 20 0,Yo 21 (.nilchk (.s 20)),Yf 22 1 21,Yl 23 0 22,YB 24 .eql 23 0,Ym 6 24] .ret
def z1ia:z3a:=
 Yq (YR [0,2,15] [.norm [0]] [Ym 7 0,Yo 8 (.nilchk (.s 7)),Yf 9 1 8,Yl 10 0 9,YB 11 .eql 10 0,Ym 12 11,YG 12 (Ym 13 1),YG 12 (Yo 14 (.un .not (.s 13))),Yp 15 12 14] z0ia) z5ga
def z6s:z6e:=
 {n:=3,wr:=[],res:=[.t 6],body:=Yr [0,1,2] [Yw 6 false] z1ia}
def z3T:z3a:=
 Yd 12 (Yr [0,4] [Ym 13 4,Ym 4 13] .ret) (Yy [0,1,4])
def z8R:z3a:=
 Yr [0,4] [Ym 30 4,Ym 4 30] .ret
def z5T:z3a:=
 Yd 25 (YR [0,4] [.norm [0]] [Ym 26 0,Ym 27 7,Yo 28 (.nilchk (.s 26)),Yf 29 1 28,YS 0 29 27] z8R) (Yy [0,5,6])
def z6R:z3a:=
 Yr [0,4] [Ym 40 5,Ym 4 40] .ret
def z5R:z3a:=
 YR [0,5] [.norm [0]] [Ym 31 0,Ym 32 0,Yo 33 (.nilchk (.s 32)),Yf 34 0 33,Yl 35 0 34,Ym 36 6,Yo 37 (.slSl 1 (.s 35) (some (.s 36)) none none),Yo 38 (.nilchk (.s 31)),Yf 39 0 38,YO (.store none 0 true (.s 39) (.s 37))] z6R
def z3S:z3a:=
 Yq (Yr [0,4,5,6,7,25] [Ym 24 7,YB 25 .neq 24 0] z5T) z5R
def z7S:z3a:=
 YR [0,4,5,6,7] [.norm [0]] [Ym 15 1,Ym 16 0,Yo 17 (.nilchk (.s 16)),Yf 18 0 17,Yl 19 0 18,Yo 20 (.callv 48 (.s 15) [.s 19] []),Ym 14 20,Ye 21 0 14,Ye 22 1 14,Ye 23 2 14,Ym 5 21,Ym 6 22,Ym 7 23] z3S
def z0S:z3a:=
 Yq (YR [0,1,4,12] [.norm [0]] [Ym 8 0,Yo 9 (.nilchk (.s 8)),Yf 10 1 9,Yl 11 0 10,YB 12 .neq 11 0] z3T) z7S
def z3l:z6e:=
 {n:=2,wr:=[],res:=[.t 4],body:=Yr [0,1,4] [Yo 4 (.mv false (.c (st [])))] z0S}
def z49:z3a:=
 .region [0,4,5,22,23,24] [.norm [0,4,15,22]] [Ym 28 7,Ym 29 5,Yo 30 (.callm 326 none [.s 29,.c (.fn 45 [] [])] [(0,15)] []),Yo 31 (.nilchk (.s 28)),YS 4 31 30]
def z28:z3a:=
 Yq (.block 1 (YR [0,4,5,7,22,23,24] [.norm [0,4,15,22]] [Yi 26 1 22 24,Yl 27 22 26,Ym 7 27] z49)) (Yu [0,4,5,22,23,24] [YB 32 .add 24 1,Ym 24 32])
def z58:z3a:=
 Yq (Yd 25 (Yy [0,4,5,22,23,24]) (YY [0,4,5])) z28
def z27:z3a:=
 Yr [0,4,5,22,23,24,25] [Yb 25 .lss 24 23] z58
def z29:z3a:=
 .block 0 (.loop z27)
def z42:z3a:=
 YR [0,4] [.norm [0,4,15,22]] [YL 54 8 4 4,Ys 8 4 4 54] .ret
def z46:z3a:=
 YR [0,4] [.norm [0,4,15,22]] [Ym 47 0,Ym 48 5,Yo 49 (.nilchk (.s 48)),Yf 50 1 49,Yl 51 15 50,Yo 52 (.nilchk (.s 47)),Yf 53 1 52,YS 0 53 51] z42
def z88:z3a:=
 YR [0,4,5] [.norm [0,4,15,22]] [Ym 39 5,Ym 40 5,Yo 41 (.nilchk (.s 40)),Yf 42 0 41,Yl 43 15 42,Yn 44 43,YB 45 .eql 44 0,Yo 46 (.callm 316 none [.s 39,.s 45,.c (i64 6)] [(0,15)] [])] z46
def z47:z3a:=
 YR [0,4,5] [.norm [0,4,15,22]] [Ym 36 5,Yo 37 (.callm 323 none [.s 36,.c (.fn 52 [] [])] [(0,15)] []),Yf 38 7 4,YO (.store none 4 true (.s 38) (.s 37))] z88
def z38:z3a:=
 YR [0,4,5] [.norm [0,4,15,22]] [Ym 33 5,Yo 34 (.callm 324 none [.s 33,.c (.fn 48 [] [])] [(0,15)] []),Yf 35 6 4,YS 4 35 34] z47
def z56:z3a:=
 Yq (YR [0,4,5,22,23,24] [.norm [0,4,15,22]] [Yf 16 0 4,Yf 17 1 4,Yf 18 2 4,Yf 19 3 4,Yf 20 4 4,Yf 21 5 4,Yo 22 (.buildBx 22 1 6 [.lit (.pointer none),.lit (.pointer none),.lit (.pointer none),.lit (.pointer none),.lit (.pointer none),.lit (.pointer none)] [(0,1,.s 16),(1,1,.s 17),(2,1,.s 18),(3,1,.s 19),(4,1,.s 20),(5,1,.s 21)]),Yn 23 22,Yc 24 0] z29) z38
def z67:z3a:=
 YR [0,4,5] [.norm [0,4,15]] [Ym 8 1,Yo 9 (.toBytes (.s 8)),Ym 10 0,Yo 11 (.nilchk (.s 10)),Yf 12 1 11,Yl 13 0 12,Yo 14 (.build [.sl .plain none 0 [],i64 0] [(0,1,.s 9),(1,1,.s 13)]),Yx 15 15 2 14,Ym 5 15] z56
def z5p:z6e:=
 {n:=2,wr:=[],res:=[.cell 4 (some 8) 4],body:=YR [0,1,4] [.norm [0,4]] [Yo 4 (.alloc 4 (List.replicate 6 (i64 0)++[st []]++[.sl .plain none 0 []]))] z67}
def z2U:z3a:=
 Yd 12 (YR [0,4] [.norm [0,4]] [YL 13 16 4 4,Ys 16 4 4 13] .ret) (Yy [0,1,4])
def z2W:z3a:=
 YR [0,4] [.norm [0,4,5]] [YL 30 16 4 4,Ys 16 4 4 30] .ret
def z3V:z3a:=
 Yd 25 (YR [0,4] [.norm [0,4,5]] [Ym 26 0,Ym 27 7,Yo 28 (.nilchk (.s 26)),Yf 29 1 28,YS 0 29 27] z2W) (Yy [0,4,5,6])
def z1U:z3a:=
 YR [0,4] [.norm [0,4,5]] [YL 40 16 5 5,Ys 16 4 4 40] .ret
def z9U:z3a:=
 YR [0,4,5] [.norm [0,4,5]] [Ym 31 0,Ym 32 0,Yo 33 (.nilchk (.s 32)),Yf 34 0 33,Yl 35 0 34,Ym 36 6,Yo 37 (.slSl 1 (.s 35) (some (.s 36)) none none),Yo 38 (.nilchk (.s 31)),Yf 39 0 38,YO (.store none 0 true (.s 39) (.s 37))] z1U
def z5U:z3a:=
 Yq (Yr [0,4,5,6,7,25] [Ym 24 7,YB 25 .neq 24 0] z3V) z9U
def z6W:z3a:=
 YR [0,4,5,6,7] [.norm [0,4,5]] [Ym 15 1,Ym 16 0,Yo 17 (.nilchk (.s 16)),Yf 18 0 17,Yl 19 0 18,Yo 20 (.callv 320 (.s 15) [.s 19] []),Ym 14 20,Ye 21 0 14,Ye 22 1 14,Ye 23 2 14,Yz 5 5 16,Ys 16 5 5 21,Ym 6 22,Ym 7 23] z5U
def z2V:z3a:=
 Yq (YR [0,1,4,12] [.norm [0,4]] [Ym 8 0,Yo 9 (.nilchk (.s 8)),Yf 10 1 9,Yl 11 0 10,YB 12 .neq 11 0] z2U) z6W
def z2m:z6e:=
 {n:=2,wr:=[],res:=[.cell 4 (some 16) 4],body:=YR [0,1,4] [.norm [0,4]] [Yz 4 4 16] z2V}
def z3Ha:z3a:=
 Yd 7 (YR [2,3,4] [.norm [2]] [YL 8 16 2 2,Ys 16 2 2 8,Yc 3 0,Yc 4 5] .ret) (Yy [2])
def z4Ja:z3a:=
 YR [2,3,4] [.norm [2]] [Ym 9 0,Yo 10 (.slSl 1 (.s 9) none (some (.c (i64 16))) none),Yo 11 (.s2ap 16 (.s 10)),YJ 12 16 11,Ys 16 2 2 12,Yc 3 16,Yc 4 0] .ret
def z9Fa:z3a:=
 Yq (Yr [2,7] [Ym 5 0,Yn 6 5,YB 7 .lss 6 16] z3Ha) z4Ja
def z73a:z6e:=
 {n:=1,wr:=[],res:=[.cell 2 (some 16) 2,.t 3,.t 4],body:=YR [2] [.norm [2]] [Yz 2 2 16,Yc 3 0,Yc 4 0] z9Fa}
def z60:z3a:=
 Yd 12 (Yr [0,4] [Ym 13 4,Ym 4 13] .ret) (Yy [0,1,4])
def z6X:z3a:=
 Yr [0,4] [Ym 30 4,Ym 4 30] .ret
def z7Y:z3a:=
 Yd 25 (YR [0,4] [.norm [0]] [Ym 26 0,Ym 27 7,Yo 28 (.nilchk (.s 26)),Yf 29 1 28,YS 0 29 27] z6X) (Yy [0,5,6])
def z70:z3a:=
 Yr [0,4] [Ym 40 5,Ym 4 40] .ret
def z0Y:z3a:=
 YR [0,5] [.norm [0]] [Ym 31 0,Ym 32 0,Yo 33 (.nilchk (.s 32)),Yf 34 0 33,Yl 35 0 34,Ym 36 6,Yo 37 (.slSl 1 (.s 35) (some (.s 36)) none none),Yo 38 (.nilchk (.s 31)),Yf 39 0 38,YO (.store none 0 true (.s 39) (.s 37))] z70
def z6Z:z3a:=
 Yq (Yr [0,4,5,6,7,25] [Ym 24 7,YB 25 .neq 24 0] z7Y) z0Y
def z20:z3a:=
 YR [0,4,5,6,7] [.norm [0]] [Ym 15 1,Ym 16 0,Yo 17 (.nilchk (.s 16)),Yf 18 0 17,Yl 19 0 18,Yo 20 (.callv 45 (.s 15) [.s 19] []),Ym 14 20,Ye 21 0 14,Ye 22 1 14,Ye 23 2 14,Ym 5 21,Ym 6 22,Ym 7 23] z6Z
def z4Z:z3a:=
 Yq (YR [0,1,4,12] [.norm [0]] [Ym 8 0,Yo 9 (.nilchk (.s 8)),Yf 10 1 9,Yl 11 0 10,YB 12 .neq 11 0] z60) z20
def z0n:z6e:=
 {n:=2,wr:=[],res:=[.t 4],body:=Yr [0,1,4] [Yc 4 0] z4Z}
end Go.Abs
end

section
namespace Go.Abs
set_option maxRecDepth 100000
end Go.Abs
end

section
namespace Go.Abs
def M32:Nat:=4294967296
def rx (y n:Nat):Nat:=Nat.shiftRight y n
def dbl (x:Nat):Nat:=Nat.mul 4294967297 x
theorem z7Ba (x:UInt32) {n:Nat} (hn:n≤32):(z71 x n).toNat=rx (dbl x.toNat) n% 2^32:=by
 have hx:=x.toNat_lt
 have e1:(z71 x n).toNat=(x.toNat>>>n)|||((x.toNat<<<(32-n))% 2^32):=by
  rw[z71,UInt32.toNat_or]
  show(x.toBitVec>>>n).toNat|||(x.toBitVec<<<(32-n)).toNat=_
  rw[BitVec.toNat_ushiftRight,BitVec.toNat_shiftLeft]
  rfl
 have e2:rx (dbl x.toNat) n=(2^32*x.toNat+x.toNat)>>>n:=by
  show(4294967297*x.toNat)>>>n=_
  congr 1
  omega
 rw[e1,e2]
 apply Nat.eq_of_testBit_eq
 intro i
 rw[Nat.testBit_or,Nat.testBit_shiftRight,Nat.testBit_mod_two_pow,Nat.testBit_shiftLeft,Nat.testBit_mod_two_pow,Nat.testBit_shiftRight,Nat.testBit_two_pow_mul_add _ hx]
 by_cases hi:i<32
 ·by_cases h:n+i<32
  ·have h0:¬32-n≤i:=by omega
   simp[hi,h,h0]
  ·have h0:32-n≤i:=by omega
   have hf:x.toNat.testBit (n+i)=false:=Nat.testBit_lt_two_pow (Nat.lt_of_lt_of_le hx (Nat.pow_le_pow_right (by decide) (by omega)))
   simp[hi,h,h0,hf]
   congr 1
   omega
 ·have hf:x.toNat.testBit (n+i)=false:=Nat.testBit_lt_two_pow (Nat.lt_of_lt_of_le hx (Nat.pow_le_pow_right (by decide) (by omega)))
  simp[hi,hf]
def xo3 (y i j k:Nat):Nat:=Nat.mod (Nat.xor (Nat.xor (rx y i) (rx y j)) (rx y k)) M32
theorem z4Ec (x:UInt32) {i j k:Nat} (hi:i≤32) (hj:j≤32) (hk:k≤32):(z71 x i^^^z71 x j^^^z71 x k).toNat=xo3 (dbl x.toNat) i j k:=by
 rw[UInt32.toNat_xor,UInt32.toNat_xor,z7Ba x hi,z7Ba x hj,z7Ba x hk]
 show _=((rx (dbl x.toNat) i^^^rx (dbl x.toNat) j)^^^rx (dbl x.toNat) k)% 2^32
 rw[Nat.xor_mod_two_pow,Nat.xor_mod_two_pow]
def xo2 (x y i j k:Nat):Nat:=Nat.xor (Nat.mod (Nat.xor (rx y i) (rx y j)) M32) (Nat.shiftRight x k)
theorem z7Cc (x:UInt32) {i j:Nat} (k:Nat) (hi:i≤32) (hj:j≤32):(z71 x i^^^z71 x j^^^z1eb x k).toNat=xo2 x.toNat (dbl x.toNat) i j k:=by
 rw[UInt32.toNat_xor,UInt32.toNat_xor,z7Ba x hi,z7Ba x hj]
 show _=((rx (dbl x.toNat) i^^^rx (dbl x.toNat) j)% 2^32)^^^(x.toNat>>>k)
 rw[Nat.xor_mod_two_pow]
 rfl
structure N8 where
 a:Nat
 b:Nat
 c:Nat
 d:Nat
 e:Nat
 f:Nat
 g:Nat
 h:Nat
def toN (s:H8):N8:=⟨s.a.toNat,s.b.toNat,s.c.toNat,s.d.toNat,s.e.toNat,s.f.toNat,s.g.toNat,s.h.toNat⟩
def z40d (k w:Nat) (s:N8):N8:=
 (fun x y=>N8.mk (Nat.mod (Nat.add x y) M32) s.a s.b s.c (Nat.mod (Nat.add s.d x) M32) s.e s.f s.g)
  (Nat.add (Nat.add (Nat.add (Nat.add s.h (xo3 (dbl s.e) 6 11 25)) (Nat.xor (Nat.land s.e s.f) (Nat.land (Nat.sub 4294967295 s.e) s.g))) k) w)
  (Nat.add (xo3 (dbl s.a) 2 13 22) (Nat.xor (Nat.xor (Nat.land s.a s.b) (Nat.land s.a s.c)) (Nat.land s.b s.c)))
theorem z23d (k w:UInt32) (s:H8):toN (rnd k w s)=z40d k.toNat w.toNat (toN s):=by
 have h1:=z4Ec s.e (i:=6) (j:=11) (k:=25) (by decide) (by decide) (by decide)
 have h2:=z4Ec s.a (i:=2) (j:=13) (k:=22) (by decide) (by decide) (by decide)
 have h3:(~~~s.e).toNat=4294967295-s.e.toNat:=by rw[UInt32.toNat_not];rfl
 simp only[toN,rnd,z40d,N8.mk.injEq,and_true,true_and]
 rw[←h1,←h2]
 generalize(z71 s.e 6^^^z71 s.e 11^^^z71 s.e 25)=S1
 generalize(z71 s.a 2^^^z71 s.a 13^^^z71 s.a 22)=S0
 simp only[UInt32.toNat_add,UInt32.toNat_xor,UInt32.toNat_and,h3]
 show _=(_+_+((s.e.toNat&&&s.f.toNat)^^^((4294967295-s.e.toNat)&&&s.g.toNat))+_+_+(_+((s.a.toNat&&&s.b.toNat)^^^(s.a.toNat&&&s.c.toNat)^^^(s.b.toNat&&&s.c.toNat))))% M32∧_=(s.d.toNat+(_+_+((s.e.toNat&&&s.f.toNat)^^^((4294967295-s.e.toNat)&&&s.g.toNat))+_+_))% M32
 simp only[M32]
 omega
def z6Vb:List Nat→List Nat→N8→N8
 |[],_,s=>s
 |_::_,[],s=>s
 |k::ks,w::ws,s=>z6Vb ks ws (z40d k w s)
theorem z85a (k w:Nat):∀(ks ws:List Nat) (s:N8),ks.length=ws.length→z6Vb (ks++[k]) (ws++[w]) s=z40d k w (z6Vb ks ws s)
 |[],[],s,_=>rfl
 |[],_::_,_,h=>by simp at h
 |_::_,[],_,h=>by simp at h
 |k'::ks,w'::ws,s,h=>by
  simp only[List.cons_append,z6Vb]
  exact z85a k w ks ws _ (by simpa using h)
def n32 (l:List UInt32):List Nat:=l.map UInt32.toNat
theorem z9Ec {l:List UInt32} {i:Nat} (h:i<l.length):l.take (i+1)=l.take i++[z6p l i]:=by
 rw[List.take_succ_eq_append_getElem h,z6p,List.getD,List.getElem?_eq_getElem h];rfl
theorem z5Cc (w:List UInt32) (s:H8) (hw:w.length=64):∀t,t≤64→toN (z92a w s t)=z6Vb (n32 (kc.take t)) (n32 (w.take t)) (toN s)
 |0,_=>rfl
 |t+1,h=>by
  have hk:kc.length=64:=rfl
  have e1:n32 (kc.take (t+1))=n32 (kc.take t)++[(z6p kc t).toNat]:=by rw[z9Ec (l:=kc) (by omega)];simp[n32]
  have e2:n32 (w.take (t+1))=n32 (w.take t)++[(z6p w t).toNat]:=by rw[z9Ec (l:=w) (by omega)];simp[n32]
  rw[z92a,z23d,z5Cc w s hw t (by omega),e1,e2]
  exact(z85a _ _ _ _ _ (by simp[n32];omega)).symm
def z3Yd:Nat→List Nat→List Nat
 |0,acc=>acc
 |n+1,acc=>z3Yd n ((fun p q=>Nat.mod (Nat.add (Nat.add (Nat.add (acc.getD 15 0) (xo2 p (dbl p) 7 18 3)) (acc.getD 6 0)) (xo2 q (dbl q) 17 19 10)) M32) (acc.getD 14 0) (acc.getD 1 0)::acc)
theorem z2Nb (w:List UInt32) {i:Nat} (h:i<w.length):(n32 w.reverse).getD i 0=(z6p w (w.length-1-i)).toNat:=by
 rw[n32,List.getD,List.getElem?_map,List.getElem?_eq_getElem (by simpa using h),List.getElem_reverse,z6p,List.getD,List.getElem?_eq_getElem (by omega)]
 rfl
theorem z52b (b:List UInt8):∀(n t:Nat),16≤t→z3Yd n (n32 (z9j b t).reverse)=n32 (z9j b (t+n)).reverse
 |0,_,_=>rfl
 |n+1,t,ht=>by
  have hl:=z4q b t
  rw[z3Yd,z2Nb _ (by omega),z2Nb _ (by omega),z2Nb _ (by omega),z2Nb _ (by omega),hl]
  have hs:n32 (z9j b (t+1)).reverse=(z83a b t (z9j b t)).toNat::n32 (z9j b t).reverse:=by simp[z9j,n32]
  have e:(z83a b t (z9j b t)).toNat=Nat.mod (Nat.add (Nat.add (Nat.add (z6p (z9j b t) (t-1-15)).toNat (xo2 (z6p (z9j b t) (t-1-14)).toNat (dbl (z6p (z9j b t) (t-1-14)).toNat) 7 18 3)) (z6p (z9j b t) (t-1-6)).toNat) (xo2 (z6p (z9j b t) (t-1-1)).toNat (dbl (z6p (z9j b t) (t-1-1)).toNat) 17 19 10)) M32:=by
   rw[z83a,if_neg (by omega),sg0,sg1,UInt32.toNat_add,UInt32.toNat_add,UInt32.toNat_add,z7Cc _ 3 (by decide) (by decide),z7Cc _ 10 (by decide) (by decide)]
   simp only[Nat.sub_sub]
   show _=(_+_+_+_)% M32
   simp only[M32,Nat.reduceAdd]
   omega
  have e':=(congrArg (· ::n32 (z9j b t).reverse) e).symm.trans hs.symm
  have h':=z52b b n (t+1) (by omega)
  rw[←e',Nat.add_assoc,Nat.add_comm 1 n] at h'
  exact h'
def wd (b:List UInt8) (t:Nat):Nat:=Nat.add (Nat.mul 256 (Nat.add (Nat.mul 256 (Nat.add (Nat.mul 256 (at8 b (4*t)).toNat) (at8 b (4*t+1)).toNat)) (at8 b (4*t+2)).toNat)) (at8 b (4*t+3)).toNat
theorem or8 {x:UInt32} {N:Nat} (hx:x.toNat=N) (hN:N<16777216) (c:UInt8):(z8ua x 8|||c.toUInt32).toNat=256*N+c.toNat:=by
 subst hx
 have hc:=c.toNat_lt
 rw[UInt32.toNat_or]
 show((x.toBitVec<<<8).toNat|||c.toUInt32.toNat)=_
 rw[BitVec.toNat_shiftLeft,UInt8.toNat_toUInt32]
 show(x.toNat<<<8% 2^32|||c.toNat)=_
 rw[Nat.mod_eq_of_lt (by rw[Nat.shiftLeft_eq];omega),←Nat.shiftLeft_add_eq_or_of_lt (by omega),Nat.shiftLeft_eq]
 omega
theorem z24d (b:List UInt8) (t:Nat):(ldw b t 4).toNat=wd b t:=by
 have h0:=(at8 b (4*t)).toNat_lt
 have h1:=(at8 b (4*t+1)).toNat_lt
 have h2:=(at8 b (4*t+2)).toNat_lt
 have e1:(ldw b t 1).toNat=(at8 b (4*t)).toNat:=by rw[ldw,ldw,or8 (N:=0) rfl (by decide)];simp
 have e2:(ldw b t 2).toNat=256*(at8 b (4*t)).toNat+(at8 b (4*t+1)).toNat:=by rw[ldw,or8 e1 (by omega)]
 have e3:(ldw b t 3).toNat=256*(256*(at8 b (4*t)).toNat+(at8 b (4*t+1)).toNat)+(at8 b (4*t+2)).toNat:=by rw[ldw,or8 e2 (by omega)]
 rw[ldw,or8 e3 (by omega)]
 rfl
def z1rd:Nat→List UInt8→List Nat→List Nat
 |n+1,a::b::c::d::r,acc=>z1rd n r (Nat.add (Nat.mul 256 (Nat.add (Nat.mul 256 (Nat.add (Nat.mul 256 a.toNat) b.toNat)) c.toNat)) d.toNat::acc)
 |_,_,acc=>acc
theorem z4Dc (b:List UInt8) (hb:b.length=64):∀(n t:Nat),n+t=16→z1rd n (b.drop (4*t)) (n32 (z9j b t).reverse)=n32 (z9j b 16).reverse
 |0,t,h=>by
  have:t=16:=by omega
  subst this
  rfl
 |n+1,t,h=>by
  have hd:b.drop (4*t)=at8 b (4*t)::at8 b (4*t+1)::at8 b (4*t+2)::at8 b (4*t+3)::b.drop (4*(t+1)):=by
   rw[List.drop_eq_getElem_cons (by omega),List.drop_eq_getElem_cons (by omega),List.drop_eq_getElem_cons (by omega),List.drop_eq_getElem_cons (by omega)]
   simp only[at8,List.getD,List.getElem?_eq_getElem (show 4*t<b.length by omega),List.getElem?_eq_getElem (show 4*t+1<b.length by omega),List.getElem?_eq_getElem (show 4*t+2<b.length by omega),List.getElem?_eq_getElem (show 4*t+3<b.length by omega),Option.getD_some]
   rfl
  have hs:n32 (z9j b (t+1)).reverse=wd b t::n32 (z9j b t).reverse:=by
   have:z83a b t (z9j b t)=ldw b t 4:=by rw[z83a,if_pos (by omega)]
   simp[z9j,n32,this,z24d]
  rw[hd,z1rd]
  show z1rd n _ (wd b t::_)=_
  rw[←hs,z4Dc b hb n (t+1) (by omega)]
def kcN:List Nat:=n32 kc
def z8Fb (s:N8) (b:List UInt8):N8:=
 (fun r=>N8.mk (Nat.mod (Nat.add s.a r.a) M32) (Nat.mod (Nat.add s.b r.b) M32) (Nat.mod (Nat.add s.c r.c) M32) (Nat.mod (Nat.add s.d r.d) M32) (Nat.mod (Nat.add s.e r.e) M32) (Nat.mod (Nat.add s.f r.f) M32) (Nat.mod (Nat.add s.g r.g) M32) (Nat.mod (Nat.add s.h r.h) M32))
  (z6Vb kcN (z3Yd 48 (z1rd 16 b [])).reverse s)
theorem z3ed (s:H8) (b:List UInt8) (hb:b.length=64):toN (z8pb s b)=z8Fb (toN s) b:=by
 have hw:=z4Dc b hb 16 0 rfl
 have e0:b.drop (4*0)=b:=rfl
 have e1:n32 (z9j b 0).reverse=[]:=rfl
 rw[e0,e1] at hw
 have hs:=z52b b 48 16 (by decide)
 have hr:=z5Cc (z9j b 64) s (z4q b 64) 64 (by decide)
 rw[List.take_of_length_le (l:=z9j b 64) (by rw[z4q];decide),List.take_of_length_le (l:=kc) (i:=64) (Nat.le_refl _)] at hr
 have hrev:(n32 (z9j b 64).reverse).reverse=n32 (z9j b 64):=by simp[n32]
 unfold z8Fb
 rw[hw,hs,hrev,kcN,←hr]
 simp only[z8pb,H8.add,toN,N8.mk.injEq]
 exact⟨UInt32.toNat_add _ _,UInt32.toNat_add _ _,UInt32.toNat_add _ _,UInt32.toNat_add _ _,UInt32.toNat_add _ _,UInt32.toNat_add _ _,UInt32.toNat_add _ _,UInt32.toNat_add _ _⟩
def z81c:Nat→List UInt8→N8→N8
 |0,_,s=>s
 |k+1,m,s=>z81c k (m.drop 64) (z8Fb s (m.take 64))
theorem z3pb:∀(k:Nat) (m:List UInt8) (s:N8),z81c (k+1) m s=z8Fb (z81c k m s) ((m.drop (64*k)).take 64)
 |0,_,_=>rfl
 |k+1,m,s=>by
  rw[z81c,z3pb k,List.drop_drop,show 64+64*k=64*(k+1) by omega]
  rfl
theorem z4Md (m:List UInt8) (s:H8):∀k,64*k≤m.length→toN (blk m s k)=z81c k m (toN s)
 |0,_=>rfl
 |k+1,h=>by rw[blk,z3ed _ _ (by simp;omega),z4Md m s k (by omega),z3pb]
def o4 (x:Nat):List UInt8:=[UInt8.ofNat (Nat.shiftRight x 24),UInt8.ofNat (Nat.shiftRight x 16),UInt8.ofNat (Nat.shiftRight x 8),UInt8.ofNat x]
def z7Xd (s:N8):List UInt8:=o4 s.a++(o4 s.b++(o4 s.c++(o4 s.d++(o4 s.e++(o4 s.f++(o4 s.g++o4 s.h))))))
theorem z9Kd (x:UInt32) (n:Nat):(z1eb x n).toUInt8=UInt8.ofNat (Nat.shiftRight x.toNat n):=by
 apply UInt8.toNat_inj.1
 rw[UInt32.toNat_toUInt8,UInt8.toNat_ofNat']
 show(x.toBitVec>>>n).toNat% 256=(x.toNat>>>n)% 256
 rw[BitVec.toNat_ushiftRight]
 rfl
theorem z1fe (h:H8):z1Sb h 32=z7Xd (toN h):=by
 simp only[z1Sb,z7Xd,o4,toN,List.nil_append,List.append_assoc,List.cons_append,z9Kd]
 rfl
def z3Gd (n:Nat):List UInt8:=128::(z9c (Nat.mod (Nat.sub 119 (Nat.mod n 64)) 64)++[UInt8.ofNat (Nat.shiftRight (Nat.mul 8 n) 56),UInt8.ofNat (Nat.shiftRight (Nat.mul 8 n) 48),UInt8.ofNat (Nat.shiftRight (Nat.mul 8 n) 40),UInt8.ofNat (Nat.shiftRight (Nat.mul 8 n) 32),UInt8.ofNat (Nat.shiftRight (Nat.mul 8 n) 24),UInt8.ofNat (Nat.shiftRight (Nat.mul 8 n) 16),UInt8.ofNat (Nat.shiftRight (Nat.mul 8 n) 8),UInt8.ofNat (Nat.mul 8 n)])
theorem z2Sc {x:UInt64} {N:Nat} (hx:x.toNat=N) (n:Nat):(z5J x n).toUInt8=UInt8.ofNat (Nat.shiftRight N n):=by
 apply UInt8.toNat_inj.1
 rw[UInt64.toNat_toUInt8,UInt8.toNat_ofNat']
 show(x.toBitVec>>>n).toNat% 256=(N>>>n)% 256
 rw[BitVec.toNat_ushiftRight]
 subst hx
 rfl
theorem z8fe {n:Nat} (h:n<1099511627776):z1yb (UInt64.ofNat n)=z3Gd n:=by
 have h1:(UInt64.ofNat n).toNat=n:=by rw[UInt64.toNat_ofNat'];omega
 have h2:(8*UInt64.ofNat n).toNat=8*n:=by
  rw[UInt64.toNat_mul,h1]
  have:(8:UInt64).toNat=8:=rfl
  rw[this];omega
 simp only[z1yb,h1,z3Gd,be8,List.nil_append,List.append_assoc,List.cons_append,z2Sc h2,z74a]
 rfl
def ivN:N8:=toN iv
def z70d (b:List UInt8):List UInt8:=(fun m=>z7Xd (z81c (Nat.div m.length 64) m ivN)) (b++z3Gd b.length)
theorem z3sd {b:List UInt8} (h:b.length<1099511000000):sha b=z70d b:=by
 obtain⟨h1,h2,h3⟩:=z4Ka (b:=b) (by omega)
 rw[z67b h,z1fe,z4Md _ _ _ (by omega)]
 show _=z7Xd (z81c ((b++z3Gd b.length).length/64) (b++z3Gd b.length) ivN)
 rw[←z8fe (by omega)]
 rfl
end Go.Abs
end

section
namespace Go.Abs
end Go.Abs
end

section
namespace Go.Abs
set_option maxRecDepth 100000
theorem hp4 {i:Nat} (h:i<6):hdA (([.bp 4 0,.bp 4 1,.bp 4 2,.bp 4 3,.bp 4 4,.bp 4 5]:List z2a).drop i)= .bp 4 i:=by
 match i,h with
 |0,_|1,_|2,_|3,_|4,_|5,_=>rfl
end Go.Abs
end

section
namespace Go.Abs
set_option maxRecDepth 100000
end Go.Abs
end

section
namespace Go.Abs
set_option maxRecDepth 100000
end Go.Abs
end
