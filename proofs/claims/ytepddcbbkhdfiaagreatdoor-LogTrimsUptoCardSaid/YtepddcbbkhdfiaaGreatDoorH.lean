/- Lemmas: an abstract interpreter, and what the functions compute. -/
import Derived.Test.YtepddcbbkhdfiaaGreatDoorG
set_option linter.unusedSimpArgs false
set_option linter.unusedVariables false
set_option linter.unusedSectionVars false
section
namespace Go.Abs
set_option maxRecDepth 100000
def z23a:z1ka:=
 {n:=1,wr:=[],res:=[.cell 2 (some 32) 2],body:=YR [2] [.norm [2]] [Yz 2 2 32] (YR [2] [.norm [2]] [YT 3 0 [],Ym 4 0,Yo 5 (.toStr none (.s 4)),YK 6 1 3 5,Yk 7 2 6,Ys 32 2 2 7] .ret)}
def z2Oa:z1ka:=
 {n:=0,wr:=[],res:=[.cell 0 (some 73) 0],body:=YR [0] [.norm [0]] [Yo 0 (.alloc 0 (z7g (z9ua 8)++bys (z5j 64)++[u64 0]))] (YR [0] [.norm [0]] [Yo 1 (.build [u32 0,u32 0,u32 0,u32 0,u32 0,u32 0,u32 0,u32 0] [(0,1,.c (u32 1779033703)),(1,1,.c (u32 3144134277)),(2,1,.c (u32 1013904242)),(3,1,.c (u32 2773480762)),(4,1,.c (u32 1359893119)),(5,1,.c (u32 2600822924)),(6,1,.c (u32 528734635)),(7,1,.c (u32 1541459225))]),Yo 2 (.build (z7g (z9ua 8)++bys (z5j 64)++[u64 0]) [(0,8,.s 1)]),Ys 73 0 0 2] .ret)}
def z2Aa:z1ka:=
 {n:=2,wr:=[1],res:=[.cell 4 (some 73) 4],body:=YR [1,2,4] [.norm [2,4]] [Yx 2 2 73 0,Yo 4 (.alloc 4 (z7g (z9ua 8)++bys (z5j 64)++[u64 0]))] (Yq (.block 0 (.loop (Yq (Yr [1,2,4,8] [Ym 7 1,Yo 8 (.bin .neq (.s 7) (.c (st [])))] (Yd 8 (Yy [1,2,4]) (YY [2,4]))) (.block 1 (YR [1,2,4,5] [.norm [2,4]] [Yf 9 72 2,Yl 10 2 9,Yo 11 (.bin .rem (.s 10) (.c (u64 64))),Yo 12 (.toInt .i64 (.s 11)),Ym 5 12] (YR [1,2,4,5,6] [.norm [2,4]] [Yf 13 8 2,Ym 14 5,Yo 15 (.slArr 64 1 (.s 13) (some (.s 14)) none none),Ym 16 1,Yo 17 (.copy 1 true 2 none (.s 15) (.s 16)),Ym 6 17] (Yr [1,2,4,5,6] [Ym 18 1,Ym 19 6,Yo 20 (.slStr (.s 18) (some (.s 19)) none),Ym 1 20] (YR [1,2,4,5,6] [.norm [2,4]] [Yf 21 72 2,Yl 22 2 21,Ym 23 6,Yo 24 (.toInt .u64 (.s 23)),Yb 25 .add 22 24,Yf 26 72 2,YS 2 26 25] (Yr [1,2,4,30] [Ym 27 5,Ym 28 6,Yb 29 .add 27 28,YB 30 .eql 29 64] (Yd 30 (.region [1,2,4] [.norm [2,4]] [Yf 31 0 2,YL 32 8 2 31,Yf 33 8 2,Yo 34 (.slArr 64 1 (.s 33) none none none),Yo 35 (.call 4 [.s 32,.s 34] [2]),Yf 36 0 2,Ys 8 2 36 35]) (Yy [1,2,4]))))))))))) (YR [4] [.norm [2,4]] [YL 37 73 2 2,Ys 73 4 4 37] .ret))}
def z0Aa:z1ka:=
 {n:=1,wr:=[],res:=[.cell 2 (some 32) 2],body:=YR [1,2] [.norm [1,2]] [Yx 1 1 73 0,Yz 2 2 32] (YR [1,2,3] [.norm [1,2]] [Yf 8 72 1,Yl 9 1 8,Yo 10 (.bin .mul (.c (u64 8)) (.s 9)),Ym 3 10] (Yr [1,2,3,4] [Yo 11 (.buildSl 1 1 [u8 0] [(0,1,.c (u8 128))]),YM 4 11] (Yq (.block 0 (.loop (Yq (YR [1,2,3,4,19] [.norm [1,2]] [Yf 12 72 1,Yl 13 1 12,Yo 14 (.toInt .i64 (.s 13)),Ym 15 4,Yn 16 15,Yb 17 .add 14 16,YB 18 .rem 17 64,YB 19 .neq 18 56] (Yd 19 (Yy [1,2,3,4]) (YY [1,2,3,4]))) (.block 1 (Yu [1,2,3,4] [YM 20 4,Yo 21 (.buildSl 1 1 [u8 0] [(0,1,.c (u8 0))]),Yo 22 (.append 1 1 false (some false) none 20 (.s 21)),YM 4 22]))))) (Yq (Yr [1,2,3,4,23] [Yc 23 0] (.block 2 (.loop (Yr [1,2,3,4,23,24] [YB 24 .lss 23 8] (Yq (Yd 24 (Yy [1,2,3,4,23]) (.ghost (.keep [1,2,4]) (.exit 2))) (Yq (.block 3 (Yr [1,2,3,4,5,23] [Ym 25 23,Ym 5 25] (Yu [1,2,3,4,23] [YM 26 4,Ym 27 3,Ym 28 5,Yo 29 (.bin .mul (.c (i64 8)) (.s 28)),Yo 30 (.bin .sub (.c (i64 56)) (.s 29)),Yb 31 .shr 27 30,Yo 32 (.toInt .u8 (.s 31)),Yo 33 (.buildSl 1 1 [u8 0] [(0,1,.s 32)]),Yo 34 (.append 1 1 false (some false) none 26 (.s 33)),YM 4 34]))) (Yu [1,2,3,4,23] [YB 35 .add 23 1,Ym 23 35]))))))) (YR [1,2] [.norm [1,2]] [YL 36 73 1 1,YM 37 4,Yo 38 (.toStr none (.s 37)),YK 39 1 36 38,Ys 73 1 1 39] (YR [1,2,6] [.norm [1,2,6]] [Yz 6 6 32] (Yq (Yr [1,2,6,40] [Yc 40 0] (.block 4 (.loop (Yr [1,2,6,40,41] [YB 41 .lss 40 32] (Yq (Yd 41 (Yy [1,2,6,40]) (.ghost (.keep [2,6]) (.exit 4))) (Yq (.block 5 (Yr [1,2,6,7,40] [Ym 42 40,Ym 7 42] (.region [1,2,6,40] [.norm [1,2,6]] [Ym 43 7,Ym 44 7,YB 45 .quo 44 4,Yf 46 0 1,Ya 47 8 1 46 45,Yl 48 1 47,Ym 49 7,YB 50 .rem 49 4,Yo 51 (.bin .mul (.c (i64 8)) (.s 50)),Yo 52 (.bin .sub (.c (i64 24)) (.s 51)),Yb 53 .shr 48 52,Yo 54 (.toInt .u8 (.s 53)),Ya 55 32 1 6 43,YS 6 55 54]))) (Yu [1,2,6,40] [YB 56 .add 40 1,Ym 40 56]))))))) (YR [2] [.norm [1,2,6]] [YL 57 32 6 6,Ys 32 2 2 57] .ret))))))))}
def z5fb:z1ka:=
 {n:=2,wr:=[],res:=[.cell 4 (some 16) 4],body:=YR [4] [.norm [4]] [Yz 4 4 16] (YR [4,5] [.norm [4,5]] [YT 9 0 [],Ym 10 0,Yo 11 (.toInt .u8 (.s 10)),Yo 12 (.buildSl 1 1 [u8 0] [(0,1,.s 11)]),Yo 13 (.toStr none (.s 12)),YK 14 1 9 13,Yo 5 (.alloc 5 (z7g (z9ua 8)++bys (z5j 64)++[u64 0])),Ys 73 5 5 14] (Yq (Yr [4,5,15,16,17] [Ym 15 1,Yn 16 15,Yc 17 0] (.block 0 (.loop (Yr [4,5,15,16,17,18] [Yb 18 .lss 17 16] (Yq (Yd 18 (Yy [4,5,15,16,17]) (YY [4,5])) (Yq (.block 1 (YR [4,5,7,15,16,17] [.norm [4,5]] [Yi 19 1 15 17,Yj 20 19,Ym 7 20] (.region [4,5,15,16,17] [.norm [4,5]] [YL 21 73 5 5,Ym 22 7,Yk 23 7 22,Yo 24 (.toStr none (.s 23)),YK 25 1 21 24,Ys 73 5 5 25]))) (Yu [4,5,15,16,17] [YB 26 .add 17 1,Ym 17 26]))))))) (YR [4,8] [.norm [4,5,8]] [YL 27 73 5 5,Yk 28 2 27,Yz 8 8 32,Ys 32 8 8 28] (YR [4] [.norm [4,5,8]] [Yo 29 (.slArr 32 1 (.s 8) none (some (.c (i64 16))) none),Yo 30 (.s2ap 16 (.s 29)),YL 31 16 8 30,Ys 16 4 4 31] .ret))))}
def z7Da:z1ka:=
 {n:=2,wr:=[],res:=[.cell 4 (some 8) 4],body:=YR [2,4] [.norm [2,4]] [Yx 2 2 8 0,Yo 4 (.alloc 4 (z7g (z9ua 8)))] (YR [2,4,5] [.norm [2,4,5]] [Ym 13 1,Yk 14 10 13,Yo 5 (.alloc 5 (z7g (z9ua 64))),Ys 64 5 5 14] (YR [2,4,5,6,7] [.norm [2,4,5,6,7]] [Yo 15 (.slArr 8 1 (.s 2) none (some (.c (i64 4))) none),Yo 16 (.s2ap 4 (.s 15)),YL 17 4 2 16,Yo 18 (.slArr 8 1 (.s 2) (some (.c (i64 4))) none none),Yo 19 (.s2ap 4 (.s 18)),YL 20 4 2 19,Yo 6 (.alloc 6 [u32 0,u32 0,u32 0,u32 0]),Yo 7 (.alloc 7 [u32 0,u32 0,u32 0,u32 0]),Ys 4 6 6 17,Ys 4 7 7 20] (Yq (YR [2,4,5,6,7,21,22] [.norm [2,4,5,6,7]] [Yo 21 (.load (some 64) none false (.g 0)),Yc 22 0] (.block 0 (.loop (Yr [2,4,5,6,7,21,22,23] [YB 23 .lss 22 64] (Yq (Yd 23 (Yy [2,4,5,6,7,21,22]) (YY [2,4,6,7])) (Yq (.block 1 (Yr [2,4,5,6,7,8,9,21,22] [Ym 24 22,Yo 25 (.idxA none 1 64 (.s 21) (.s 22)),Ym 8 24,Ym 9 25] (YR [2,4,5,6,7,10,21,22] [.norm [2,4,5,6,7]] [YA 26 4 1 7 3,Yl 27 7 26,YA 28 4 1 7 0,Yl 29 7 28,Yo 30 (.call 11 [.s 29,.c (i64 6),.c (i64 11),.c (i64 25)] []),Yb 31 .add 27 30,YA 32 4 1 7 0,Yl 33 7 32,YA 34 4 1 7 1,Yl 35 7 34,Yb 36 .and 33 35,YA 37 4 1 7 0,Yl 38 7 37,Yo 39 (.un .xor (.s 38)),YA 40 4 1 7 2,Yl 41 7 40,Yb 42 .and 39 41,Yb 43 .xor 36 42,Yb 44 .add 31 43,Ym 45 9,Yb 46 .add 44 45,Ym 47 8,Ya 48 64 1 5 47,Yl 49 5 48,Yb 50 .add 46 49,Ym 10 50] (YR [2,4,5,6,7,10,11,21,22] [.norm [2,4,5,6,7]] [YA 51 4 1 6 0,Yl 52 6 51,Yo 53 (.call 11 [.s 52,.c (i64 2),.c (i64 13),.c (i64 22)] []),YA 54 4 1 6 0,Yl 55 6 54,YA 56 4 1 6 1,Yl 57 6 56,Yb 58 .and 55 57,YA 59 4 1 6 0,Yl 60 6 59,YA 61 4 1 6 2,Yl 62 6 61,Yb 63 .and 60 62,Yb 64 .xor 58 63,YA 65 4 1 6 1,Yl 66 6 65,YA 67 4 1 6 2,Yl 68 6 67,Yb 69 .and 66 68,Yb 70 .xor 64 69,Yb 71 .add 53 70,Ym 11 71] (YR [2,4,5,6,7,10,11,21,22] [.norm [2,4,5,6,7]] [YA 72 4 1 6 3,Yl 73 6 72,Ym 74 10,Yb 75 .add 73 74,YA 76 4 1 7 0,Yl 77 7 76,YA 78 4 1 7 1,Yl 79 7 78,YA 80 4 1 7 2,Yl 81 7 80,Yo 82 (.build [u32 0,u32 0,u32 0,u32 0] [(0,1,.s 75),(1,1,.s 77),(2,1,.s 79),(3,1,.s 81)]),Ys 4 7 7 82] (.region [2,4,5,6,7,21,22] [.norm [2,4,5,6,7]] [Ym 83 10,Ym 84 11,Yb 85 .add 83 84,YA 86 4 1 6 0,Yl 87 6 86,YA 88 4 1 6 1,Yl 89 6 88,YA 90 4 1 6 2,Yl 91 6 90,Yo 92 (.build [u32 0,u32 0,u32 0,u32 0] [(0,1,.s 85),(1,1,.s 87),(2,1,.s 89),(3,1,.s 91)]),Ys 4 6 6 92])))))) (Yu [2,4,5,6,7,21,22] [YB 93 .add 22 1,Ym 22 93]))))))) (Yq (Yr [2,4,6,7,94] [Yc 94 0] (.block 2 (.loop (Yr [2,4,6,7,94,95] [YB 95 .lss 94 4] (Yq (Yd 95 (Yy [2,4,6,7,94]) (.ghost (.keep [2,4]) (.exit 2))) (Yq (.block 3 (Yr [2,4,6,7,12,94] [Ym 96 94,Ym 12 96] (YR [2,4,6,7,12,94] [.norm [2,4,5,6,7]] [Ym 97 12,Ya 98 8 1 2 97,Yl 99 2 98,Ym 100 12,Ya 101 4 1 6 100,Yl 102 6 101,Yb 103 .add 99 102,Ya 104 8 1 2 97,YS 2 104 103] (.region [2,4,6,7,94] [.norm [2,4,5,6,7]] [Ym 105 12,YB 106 .add 105 4,Ya 107 8 1 2 106,Yl 108 2 107,Ym 109 12,Ya 110 4 1 7 109,Yl 111 7 110,Yb 112 .add 108 111,Ya 113 8 1 2 106,YS 2 113 112])))) (Yu [2,4,6,7,94] [YB 114 .add 94 1,Ym 94 114]))))))) (YR [4] [.norm [2,4,5,6,7]] [YL 115 8 2 2,Ys 8 4 4 115] .ret)))))}
def z5Ja:z1ka:=
 {n:=1,wr:=[],res:=[.t 2],body:=Yr [] [Yo 2 (.mv true (.c (.sl (.own 1) none 0 [])))] (Yr [2] [Ym 3 0,Yo 4 (.len true (.s 3)),Yk 5 12 4,Ym 6 0,Yo 7 (.append 1 1 true (some false) none 5 (.s 6)),YM 2 7] .ret)}
def z9Da:z1ka:=
 {n:=1,wr:=[],res:=[.cell 2 (some 64) 2],body:=YR [2] [.norm [2]] [Yo 2 (.alloc 2 (z7g (z9ua 64)))] (YR [2,3] [.norm [2,3]] [Yo 3 (.alloc 3 (z7g (z9ua 64)))] (Yq (Yr [2,3,11] [Yc 11 0] (.block 0 (.loop (Yr [2,3,11,12] [YB 12 .lss 11 64] (Yq (Yd 12 (Yy [2,3,11]) (YY [2,3])) (Yq (.block 1 (Yr [2,3,4,11] [Ym 13 11,Ym 4 13] (Yq (Yr [2,3,4,11,15] [Ym 14 4,YB 15 .lss 14 16] (Yd 15 (Yq (Yr [2,3,4,11,22,23,24] [Ym 16 0,Ym 17 4,Yo 18 (.bin .mul (.c (i64 4)) (.s 17)),Ym 19 4,Yo 20 (.bin .mul (.c (i64 4)) (.s 19)),YB 21 .add 20 4,Yo 22 (.slSl 1 (.s 16) (some (.s 18)) (some (.s 21)) none),Yn 23 22,Yc 24 0] (.block 2 (.loop (Yr [2,3,4,11,22,23,24,25] [Yb 25 .lss 24 23] (Yq (Yd 25 (Yy [2,3,4,11,22,23,24]) (.ghost (.keep [2,3,11]) (.exit 2))) (Yq (.block 3 (YR [2,3,4,6,11,22,23,24] [.norm [2,3]] [Yi 26 1 22 24,Yj 27 26,Ym 6 27] (.region [2,3,4,11,22,23,24] [.norm [2,3]] [Ym 28 4,Ym 29 4,Ya 30 64 1 3 29,Yl 31 3 30,Yo 32 (.bin .shl (.s 31) (.c (u64 8))),Ym 33 6,Yo 34 (.toInt .u32 (.s 33)),Yb 35 .or 32 34,Ya 36 64 1 3 28,YS 3 36 35]))) (Yu [2,3,4,11,22,23,24] [YB 37 .add 24 1,Ym 24 37]))))))) (.ghost (.keep [2,3,11]) (.exit 1))) (Yy [2,3,4,11]))) (YR [2,3,4,7,8,11] [.norm [2,3]] [Ym 38 4,YB 39 .sub 38 15,Ya 40 64 1 3 39,Yl 41 3 40,Ym 42 4,YB 43 .sub 42 2,Ya 44 64 1 3 43,Yl 45 3 44,Ym 7 41,Ym 8 45] (Yr [2,3,4,8,9,11] [Ym 46 7,Yo 47 (.call 13 [.s 46,.c (i64 (-7))] []),Ym 48 7,Yo 49 (.call 13 [.s 48,.c (i64 (-18))] []),Yb 50 .xor 47 49,Ym 51 7,Yo 52 (.bin .shr (.s 51) (.c (u64 3))),Yb 53 .xor 50 52,Ym 9 53] (Yr [2,3,4,9,10,11] [Ym 54 8,Yo 55 (.call 13 [.s 54,.c (i64 (-17))] []),Ym 56 8,Yo 57 (.call 13 [.s 56,.c (i64 (-19))] []),Yb 58 .xor 55 57,Ym 59 8,Yo 60 (.bin .shr (.s 59) (.c (u64 10))),Yb 61 .xor 58 60,Ym 10 61] (.region [2,3,11] [.norm [2,3]] [Ym 62 4,Ym 63 4,YB 64 .sub 63 16,Ya 65 64 1 3 64,Yl 66 3 65,Ym 67 9,Yb 68 .add 66 67,Ym 69 4,YB 70 .sub 69 7,Ya 71 64 1 3 70,Yl 72 3 71,Yb 73 .add 68 72,Ym 74 10,Yb 75 .add 73 74,Ya 76 64 1 3 62,YS 3 76 75]))))))) (Yu [2,3,11] [YB 77 .add 11 1,Ym 11 77]))))))) (YR [2] [.norm [2,3]] [YL 78 64 3 3,Ys 64 2 2 78] .ret)))}
def z83a:z1ka:=
 {n:=4,wr:=[],res:=[.t 8],body:=Yr [] [Yo 8 (.mv false (.c (u32 0)))] (Yr [8] [Ym 9 0,Ym 10 1,Yo 11 (.un .neg (.s 10)),YK 12 13 9 11,Ym 13 0,Ym 14 2,Yo 15 (.un .neg (.s 14)),YK 16 13 13 15,Yb 17 .xor 12 16,Ym 18 0,Ym 19 3,Yo 20 (.un .neg (.s 19)),YK 21 13 18 20,Yb 22 .xor 17 21,Ym 8 22] .ret)}
def z1d:z1ka:=
 {n:=1,wr:=[],res:=[.t 2],body:=Yr [] [Yo 2 (.mv true (.c (.sl (.own 1) none 0 [])))] (.scope (Yr [3,4] [Ym 8 0,Yo 9 (.toInt .u64 (.s 8)),Ym 3 9,Yo 4 (.mv false (.c (u8 0)))] (Yq (Yr [3,4,11] [Ym 10 0,YB 11 .lss 10 0] (Yd 11 (Yu [3,4] [Ym 12 3,Yo 13 (.un .xor (.s 12)),Ym 3 13,Yo 4 (.mv false (.c (u8 255)))]) (Yy [3,4]))) (Yr [3,4,5] [Yc 5 8] (Yq (Yy [3,4,5]) (Yq (.block 0 (.loop (Yq (Yr [3,4,5,15] [Ym 14 5,YB 15 .gtr 14 0] (Yd 15 (Yy [3,4,5]) (YY [3,4,5]))) (.block 1 (Yq (Yr [3,4,5,21] [Ym 16 3,Ym 17 5,YB 18 .sub 17 1,Yo 19 (.bin .mul (.c (i64 8)) (.s 18)),Yb 20 .shr 16 19,Yo 21 (.bin .gtr (.s 20) (.c (u64 0)))] (Yd 21 (YY [3,4,5]) (Yy [3,4,5]))) (Yu [3,4,5] [Ym 22 5,YB 23 .sub 22 1,Ym 5 23])))))) (Yr [3,4,5,6] [Ym 24 5,Yo 25 (.bin .add (.c (i64 128)) (.s 24)),Yo 26 (.toInt .u8 (.s 25)),Ym 27 4,Yb 28 .xor 26 27,Yo 29 (.buildSl 1 1 [u8 0] [(0,1,.s 28)]),YM 6 29] (Yq (Yr [3,4,6,7] [Ym 30 5,YB 31 .sub 30 1,Ym 7 31] (.block 2 (.loop (Yq (Yr [3,4,6,7,33] [Ym 32 7,YB 33 .geq 32 0] (Yd 33 (Yy [3,4,6,7]) (.ghost (.keep [6]) (.exit 2)))) (Yq (.block 3 (Yu [3,4,6,7] [YM 36 6,Ym 37 3,Ym 38 7,Yo 39 (.bin .mul (.c (i64 8)) (.s 38)),Yb 40 .shr 37 39,Yo 41 (.toInt .u8 (.s 40)),Ym 42 4,Yb 43 .xor 41 42,Yo 44 (.buildSl 1 1 [u8 0] [(0,1,.s 43)]),Yo 45 (.append 1 1 false (some false) none 36 (.s 44)),YM 6 45])) (Yu [3,4,6,7] [Ym 34 7,YB 35 .sub 34 1,Ym 7 35])))))) (Yr [2] [YM 46 6,YM 2 46] .ret)))))))))}
def z8xa:z1ka:=
 {n:=2,wr:=[],res:=[.t 4],body:=Yr [] [Yo 4 (.mv false (.c (u32 0)))] (Yr [5] [Ym 6 1,Yo 7 (.toInt .u64 (.s 6)),Yo 8 (.bin .and (.s 7) (.c (u64 31))),Ym 5 8] (Yr [4] [Ym 9 0,Ym 10 5,Yb 11 .shl 9 10,Ym 12 0,Ym 13 5,Yo 14 (.bin .sub (.c (u64 32)) (.s 13)),Yb 15 .shr 12 14,Yb 16 .or 11 15,Ym 4 16] .ret))}
end Go.Abs
end

section
namespace Go.Abs
def z2k (n:Nat):List UInt8:=if h:n=0 then [] else UInt8.ofNat n::z2k (n/256)
termination_by n
decreasing_by omega
theorem z0g:z2k 0=[]:=by rw[z2k];simp
theorem z6h {n:Nat} (h:n≠0):z2k n=UInt8.ofNat n::z2k (n/256):=by rw[z2k];simp[h]
def mag (n:Int):Nat:=(if n<0 then-1-n else n).toNat
def flp (n:Int) (c:UInt8):UInt8:=if n<0 then 255-c else c
def z3r (n:Int):List UInt8:=
 flp n (UInt8.ofNat (128+(z2k (mag n)).length))::(z2k (mag n)).reverse.map (flp n)
theorem z1h:∀(i n:Nat) (h:i<(z2k n).length),(z2k n)[i]=UInt8.ofNat (n/256^i)
 |0,n,h=>by
  by_cases hn:n=0
  ·subst hn;simp[z0g] at h
  ·simp[z6h hn]
 |i+1,n,h=>by
  by_cases hn:n=0
  ·subst hn;simp[z0g] at h
  ·simp only[z6h hn,List.length_cons,Nat.add_lt_add_iff_right] at h⊢
   rw[List.getElem_cons_succ,z1h i (n/256) h,Nat.div_div_eq_div_mul,Nat.pow_succ,Nat.mul_comm]
theorem z8h:∀(k n:Nat),(z2k n).length≤k↔n<256^k
 |0,n=>by
  by_cases hn:n=0
  ·subst hn;simp[z0g]
  ·simp[z6h hn];omega
 |k+1,n=>by
  by_cases hn:n=0
  ·subst hn;simp[z0g,Nat.pow_pos]
  ·rw[z6h hn,List.length_cons,Nat.add_le_add_iff_right,z8h k,Nat.div_lt_iff_lt_mul (by decide),Nat.pow_succ]
end Go.Abs
namespace Go.Abs
theorem z9l {x:UInt64} {N m:Nat} (hx:x.toNat=N):(0<z5n x m)↔2^m≤N:=by
 rw[UInt64.lt_iff_toNat_lt]
 show 0<(x.toBitVec>>>m).toNat↔_
 rw[BitVec.toNat_ushiftRight,Nat.shiftRight_eq_div_pow]
 show 0<x.toNat/2^m↔_
 rw[hx,Nat.div_pos_iff]
 have:=Nat.two_pow_pos m
 omega
theorem z5o (k:Nat):2^(8*k)=256^k:=by rw[Nat.pow_mul]
theorem z4q {x:UInt64} {N m:Nat} (hx:x.toNat=N):(z5n x m).toUInt8=UInt8.ofNat (N/2^m):=by
 apply UInt8.toNat_inj.1
 rw[UInt64.toNat_toUInt8,UInt8.toNat_ofNat']
 show(x.toBitVec>>>m).toNat% 256=_
 rw[BitVec.toNat_ushiftRight,Nat.shiftRight_eq_div_pow]
 show x.toNat/2^m% 256=_
 rw[hx]
end Go.Abs
end

section
namespace Go.Abs
def z2e (n:Int):Prop:= -9223372036854775808≤n∧n≤9223372036854775807
def z2L:z1f:=⟨fun ds=>∃n,z2e n∧ds=[i64 n],fun ds=> .sl (.own 1) (some false) (z3r (asI (nth ds 0))).length (bys (z3r (asI (nth ds 0))))⟩
set_option maxRecDepth 100000 in
theorem z0L (c:UInt8):c^^^255=255-c:=by
 have h:∀k:Fin 256,UInt8.ofNat k.val^^^255=255-UInt8.ofNat k.val:=by decide+kernel
 have:=h ⟨c.toNat,c.toNat_lt⟩
 simpa using this
theorem z8X (E:Env):∀ds,z2L.pre ds→ds.length=z1d.n∧awp E z1d.body (z4xa z1d.res (z2L.post ds)) (z4H z1d.wr ds):=by
 rintro _ ⟨n,⟨hn0,hn1⟩,rfl⟩
 simp(disch:=first|omega|(simp;omega)) [z1d,z2L]
 refine z1g fun Q0 hQ0=> ?_
 have key:∀(x:UInt64) (f:UInt8),x.toNat=mag n→(∀c,c^^^f=flp n c)→Q0 .normal ⟨[(0,i64 n)],[(3,u64 x),(4,u8 f)],[]⟩:=by
  intro x f hx hf
  simp(disch:=first|omega|(simp;omega)) [hQ0]
  refine z1g fun Q1 hQ1=> ?_
  have key2:∀k:Nat,k≤8→(z2k (mag n)).length=k→Q1 (.exit 0) ⟨[(0,i64 n)],[(3,u64 x),(4,u8 f),(5,i64 k)],[]⟩:=by
   intro k hk8 hk
   simp(disch:=first|omega|(simp;omega)) [hQ1,z6G]
   refine z1g fun Q2 hQ2=> ?_
   have ehd:(UInt8.ofInt 128+UInt8.ofInt (k:Int))^^^f=flp n (UInt8.ofNat (128+k)):=by
    rw[←hf]
    congr 1
    apply UInt8.toNat_inj.1
    simp[z5t]
    omega
   rw[ehd]
   refine z1v (fun j:Nat=>⟨[(0,i64 n)],[(3,u64 x),(4,u8 f),(6,.sl (.own 1) (some false) (1+j) (bys (flp n (UInt8.ofNat (128+k))::((z2k (mag n)).reverse.take j).map (flp n)))),(7,i64 ((k:Int)-1-j))],[]⟩)
    (fun j=>k-j) (· ≤k) 0 (by simp;rfl) (by simp) fun j hj=> ?_
   refine z1g fun Q3 hQ3=> ?_
   simp(disch:=first|omega|(simp;omega)) [z6G]
   rw[z4h]
   refine⟨by simp,fun h=> ?_,fun h=> ?_⟩<;>simp at h
   ·simp(disch:=first|omega|(simp;omega)) [z6G]
    refine⟨by omega,by omega,?_⟩
    have hjk:j<k:=by omega
    have e8:(8*((k:Int)-1-(j:Int))).toNat=8*(k-1-j):=by omega
    have hel:(z5n x (8*(k-1-j))).toUInt8^^^f=flp n ((z2k (mag n))[k-1-j]'(by omega)):=by
     rw[hf,z1h,z4q hx,z5o]
    have htk:((z2k (mag n)).map (flp n)).reverse.take (j+1)=((z2k (mag n)).map (flp n)).reverse.take j++[flp n ((z2k (mag n))[k-1-j]'(by omega))]:=by
     rw[List.take_succ_eq_append_getElem (by simp;omega)]
     simp[hk]
    rw[hQ3,e8,hel]
    simp
    refine⟨j+1,by omega,by omega,⟨by omega,?_⟩,by omega⟩
    rw[htk]
    simp[bys]
   ·have e:j=k:=by omega
    subst e
    simp[hQ3,hQ2,z3r,hk,List.take_of_length_le]
    omega
  refine z1v (fun k:Nat=>⟨[(0,i64 n)],[(3,u64 x),(4,u8 f),(5,i64 k)],[]⟩) (fun k=>k) (fun k=>k≤8∧(z2k (mag n)).length≤k) 8 rfl ?_ fun k hk=> ?_
  ·refine⟨by decide,(z8h 8 _).2 ?_⟩
   rw[←hx]
   exact x.toNat_lt
  ·obtain⟨hk8,hkl⟩:=hk
   refine z1g fun Q2 hQ2=> ?_
   simp(disch:=first|omega|(simp;omega)) [z6G]
   rw[z4h]
   refine⟨by simp,fun h=> ?_,fun h=> ?_⟩<;>simp at h
   ·obtain⟨j,rfl⟩:∃j,k=j+1:=⟨k-1,by omega⟩
    have e1:((8:Int)*(((j+1:Nat):Int)-1)).toNat=8*j:=by omega
    simp(disch:=first|omega|(simp;omega)) [z6G]
    refine⟨by omega,?_⟩
    rw[z4h]
    refine⟨by simp,fun h2=> ?_,fun h2=> ?_⟩<;>simp at h2
    ·simp[hQ2]
     refine key2 (j+1) hk8 ?_
     have h3:¬(z2k (mag n)).length≤j:=by
      rw[z8h,←z5o,Nat.not_lt,←z9l hx,←e1]
      simpa using h2
     omega
    ·simp(disch:=first|omega|(simp;omega)) [hQ2,z6G]
     have h3:¬0<z5n x (8*j):=by rw[←e1];simpa using h2
     have h4:(z2k (mag n)).length≤j:=by rw[z8h,←z5o,←Nat.not_le,←z9l hx];exact h3
     exact⟨j,by omega,⟨by omega,h4⟩,by omega⟩
   ·simp[hQ2]
    subst h
    exact key2 0 (by decide) (by omega)
 rw[z4h]
 have hge:∀m:Int,0≤m→m<18446744073709551616→(UInt64.ofInt m).toNat=m.toNat:=fun m h0 h1=>by rw[z3l,Int.emod_eq_of_lt h0 h1]
 refine⟨by simp,fun h=> ?_,fun h=> ?_⟩<;>simp at h
 ·simp
  refine key _ 255 ?_ ?_
  ·rw[mag,if_pos h,UInt64.toNat_not,z3l]
   have:UInt64.size=18446744073709551616:=rfl
   omega
  ·intro c
   rw[flp,if_pos h]
   exact z0L c
 ·simp
  refine key _ 0 ?_ ?_
  ·rw[hge n h (by omega),mag,if_neg (by omega)]
  ·intro c
   rw[flp,if_neg (by omega)]
   simp
end Go.Abs
end

section
namespace Go.Abs
def z2X (s:List UInt8):List UInt8:=z3r s.length++s
def z7lb:z1f:=⟨fun ds=>∃s:List UInt8,s.length≤1099511000000∧ds=[st s],fun ds=> .sl (.own 1) (some false) (z2X (gS (nth ds 0))).length (bys (z2X (gS (nth ds 0))))⟩
theorem z9Jc {n:Int} (h:z2e n):(z2k (mag n)).length≤8:=by
 rw[z8h,mag]
 obtain⟨h1,h2⟩:=h
 split<;>omega
theorem z4Da {n:Int} (h:z2e n):(z3r n).length≤9:=by
 have:=z9Jc h
 simp[z3r];omega
theorem z4ad (E:Env) (h12:E.G 12=z2L):∀ds,z7lb.pre ds→ds.length=z5Ja.n∧awp E z5Ja.body (z4xa z5Ja.res (z7lb.post ds)) (z4H z5Ja.wr ds):=by
 rintro _ ⟨s,hs,rfl⟩
 have hi:z2e (s.length:Int):=⟨by omega,by omega⟩
 have hl:=z4Da hi
 simp(disch:=first|omega|(simp;omega)) [z5Ja,z7lb,h12,z2L,z2X,hi,z4Na]
 omega
end Go.Abs
end

section
namespace Go.Abs
end Go.Abs
end

section
namespace Go.Abs
def fl (h c:UInt8):UInt8:=if h<128 then 255-c else c
def kOf (h:UInt8):Nat:=(fl h h).toNat-128
def z8la (l:List UInt8):Nat:=l.foldl (fun a c=>256*a+c.toNat) 0
def z6m:List UInt8→Int×Nat×Nat
 |[]=>(0,0,5)
 |h::t=>
  if 8<kOf h then(0,0,6) else if t.length<kOf h then(0,0,5)
  else if 0<kOf h∧fl h (at8 t 0)=0 then(0,0,6)
  else if 2^63≤z8la ((t.take (kOf h)).map (fl h)) then(0,0,6)
  else(if h<128 then-1-(z8la ((t.take (kOf h)).map (fl h)):Int) else z8la ((t.take (kOf h)).map (fl h)),kOf h+1,0)

end Go.Abs
end

section
namespace Go.Abs

def z0w (x:UInt32) (n:Nat):UInt32:=z8q x n|||z7A x (32-n)
def z9pc (x:UInt32) (k:Int):UInt32:=z7A x (UInt64.ofInt k&&&31).toNat|||z8q x (32-(UInt64.ofInt k&&&31)).toNat
theorem z8Id (x:UInt32):z9pc x (-7)=z0w x 7:=UInt32.or_comm _ _
theorem z2kd (x:UInt32):z9pc x (-18)=z0w x 18:=UInt32.or_comm _ _
theorem z7ud (x:UInt32):z9pc x (-17)=z0w x 17:=UInt32.or_comm _ _
theorem z5pd (x:UInt32):z9pc x (-19)=z0w x 19:=UInt32.or_comm _ _
theorem z9Sd (x:UInt32):z9pc x (-6)=z0w x 6:=UInt32.or_comm _ _
theorem z8ld (x:UInt32):z9pc x (-11)=z0w x 11:=UInt32.or_comm _ _
theorem z8sd (x:UInt32):z9pc x (-25)=z0w x 25:=UInt32.or_comm _ _
theorem z0Td (x:UInt32):z9pc x (-2)=z0w x 2:=UInt32.or_comm _ _
theorem z0md (x:UInt32):z9pc x (-13)=z0w x 13:=UInt32.or_comm _ _
theorem z5ld (x:UInt32):z9pc x (-22)=z0w x 22:=UInt32.or_comm _ _

structure H8 where
 a:UInt32
 b:UInt32
 c:UInt32
 d:UInt32
 e:UInt32
 f:UInt32
 g:UInt32
 h:UInt32
def H8.l (s:H8):List UInt32:=[s.a,s.b,s.c,s.d,s.e,s.f,s.g,s.h]
def H8.of (l:List UInt32):H8:=⟨z8i l 0,z8i l 1,z8i l 2,z8i l 3,z8i l 4,z8i l 5,z8i l 6,z8i l 7⟩
@[simp] theorem H8.of_l (s:H8):H8.of s.l=s:=rfl
@[simp] theorem H8.len (s:H8):s.l.length=8:=rfl
def iv:H8:=⟨1779033703,3144134277,1013904242,2773480762,1359893119,2600822924,528734635,1541459225⟩
def kc:List UInt32:=[1116352408,1899447441,3049323471,3921009573,961987163,1508970993,2453635748,2870763221,3624381080,310598401,607225278,1426881987,1925078388,2162078206,2614888103,3248222580,3835390401,4022224774,264347078,604807628,770255983,1249150122,1555081692,1996064986,2554220882,2821834349,2952996808,3210313671,3336571891,3584528711,113926993,338241895,666307205,773529912,1294757372,1396182291,1695183700,1986661051,2177026350,2456956037,2730485921,2820302411,3259730800,3345764771,3516065817,3600352804,4094571909,275423344,430227734,506948616,659060556,883997877,958139571,1322822218,1537002063,1747873779,1955562222,2024104815,2227730452,2361852424,2428436474,2756734187,3204031479,3329325298]

def z6Zc:z1f:=⟨fun ds=>∃x k,ds=[u32 x,i64 k],fun ds=>u32 (z9pc (z3ka (nth ds 0)) (asI (nth ds 1)))⟩
def z0fd:z1f:=⟨fun ds=>∃x i j k,ds=[u32 x,i64 i,i64 j,i64 k],fun ds=>u32 (z9pc (z3ka (nth ds 0)) (W (-asI (nth ds 1)))^^^z9pc (z3ka (nth ds 0)) (W (-asI (nth ds 2)))^^^z9pc (z3ka (nth ds 0)) (W (-asI (nth ds 3))))⟩

def ldw (b:List UInt8) (t:Nat):Nat→UInt32
 |0=>0
 |j+1=>z7A (ldw b t j) 8|||(at8 b (4*t+j)).toUInt32
def sg0 (p:UInt32):UInt32:=z0w p 7^^^z0w p 18^^^z8q p 3
def sg1 (q:UInt32):UInt32:=z0w q 17^^^z0w q 19^^^z8q q 10
def z8ha (b:List UInt8) (t:Nat) (w:List UInt32):UInt32:=
 if t<16 then ldw b t 4 else z8i w (t-16)+sg0 (z8i w (t-15))+z8i w (t-7)+sg1 (z8i w (t-2))
def z4N (b:List UInt8):Nat→List UInt32
 |0=>[]
 |t+1=>z4N b t++[z8ha b t (z4N b t)]
theorem z0Ca (b:List UInt8):∀t,(z4N b t).length=t
 |0=>rfl
 |t+1=>by simp[z4N,z0Ca b t]
def z96a:z1f:=⟨fun ds=>∃nl b,b.length=64∧ds=[.sl .plain nl 64 (bys b)],fun ds=> .agg (z7g (z4N (gBs (gCs (nth ds 0))) 64))⟩

def rnd (k w:UInt32) (s:H8):H8:=
 let x:=s.h+(z0w s.e 6^^^z0w s.e 11^^^z0w s.e 25)+((s.e&&&s.f)^^^(~~~s.e&&&s.g))+k+w
 let y:=(z0w s.a 2^^^z0w s.a 13^^^z0w s.a 22)+((s.a&&&s.b)^^^(s.a&&&s.c)^^^(s.b&&&s.c))
 ⟨x+y,s.a,s.b,s.c,s.d+x,s.e,s.f,s.g⟩
def z6Xb (w:List UInt32) (s:H8):Nat→H8
 |0=>s
 |t+1=>rnd (z8i kc t) (z8i w t) (z6Xb w s t)
def H8.add (s v:H8):H8:=⟨s.a+v.a,s.b+v.b,s.c+v.c,s.d+v.d,s.e+v.e,s.f+v.f,s.g+v.g,s.h+v.h⟩
def z5ia (s:H8) (b:List UInt8):H8:=s.add (z6Xb (z4N b 64) s 64)
def z0Mb:z1f:=⟨fun ds=>∃(s:H8) (nl:Option Bool) (b:List UInt8),b.length=64∧ds=[.agg (z7g s.l),.sl .plain nl 64 (bys b)],fun ds=> .agg (z7g (z5ia (H8.of (gWs (gCs (nth ds 0)))) (gBs (gCs (nth ds 1)))).l)⟩

theorem z1ub {t:Nat} (h:t<64):z9ua (64-t)=0::z9ua (63-t):=by
 rw[show 64-t=(63-t)+1 by omega];rfl
theorem z4Pb {α:Type} {a c:List α} {i:Nat} {x y:α} (h:i=a.length):(a++x::c).set i y=a++y::c:=by
 subst h;simp
end Go.Abs
namespace Go.Abs
structure z3j where
 h:H8
 b:List UInt8
 n:UInt64
def scs (s:z3j):List z0a:=z7g s.h.l++(bys s.b++[u64 s.n])
def z3j.v (s:z3j):z0a:= .agg (scs s)
def z3j.of (l:List z0a):z3j:=⟨H8.of (gWs (l.take 8)),gBs ((l.drop 8).take 64),z2ha (nth l 72)⟩
section cells
variable {s : z3j}
theorem z5Ua (h:s.b.length=64):(scs s).length=73:=by simp[scs,h]
theorem z99c (h:s.b.length=64):hdA ((scs s).drop 72)=u64 s.n:=by
 rw[z84c]
 simp[scs,List.getD,List.getElem?_append,h]
theorem z7Cd (s:z3j):(scs s).take 8=z7g s.h.l:=by simp[scs]
theorem z7sd (h:s.b.length=64):((scs s).drop 8).take 64=bys s.b:=by
 rw[scs,List.drop_left' (by simp),List.take_left' (by simp[h])]
theorem z4Hc (h:s.b.length=64):(scs s).take 73=scs s:=List.take_of_length_le (by rw[z5Ua h];decide)
@[simp] theorem z47 (s:z3j):(∀c∈scs s,z8a c)↔True:=by simp[scs,or_imp,forall_and]
@[simp] theorem z4ka (s:z3j):(∀c∈scs s,z5b c=false)↔True:=by simp[scs,or_imp,forall_and]
@[simp] theorem z2t (s:z3j):z8b (scs s)=true:=by simp[scs]
@[simp] theorem z3aa (s:z3j):(∀c∈scs s,z0b c=true)↔True:=iff_true_intro ((z4i _).1 (z2t s))
@[simp] theorem z9oa (s:z3j):z7a (scs s)=true:=by simp[scs]
@[simp] theorem z86 (s:z3j):z6b (scs s)=[]:=by simp[scs]
theorem z9cc {x:H8}:splice (scs s) 0 (z7g x.l)=scs {s with h:=x}:=by
 rw[scs,z2yb (by simp),z0qa (by simp)];rfl
theorem z9Kc {n:UInt64} (h:s.b.length=64):splice (scs s) 72 [u64 n]=scs {s with n:=n}:=by
 rw[scs,z9rb (by simp),z9rb (by simp[h])]
 simp[h,scs]
theorem z7Tc {i:Nat} {xs:List UInt8} (h:s.b.length=64) (hi:i+xs.length≤64):splice (scs s) (8+i) (bys xs)=scs {s with b:=s.b.take i++xs++s.b.drop (i+xs.length)}:=by
 rw[scs,z9rb (by simp),z2yb (by simp[h];omega)]
 simp only[H8.len,z5O,Nat.add_sub_cancel_left,scs]
 rw[splice,z1Q,z4Na,z4Na,z0ea,z5ea]
theorem z03b {l:List z0a} (h:s.b.length=64) (hl:l.length=73):splice l 0 (scs s)=scs s:=z0qa (by rw[hl,z5Ua h])
end cells
theorem z4yc:(z7g (z9ua 8)++(bys (z5j 64)++[u64 0])).length=73:=by simp
def z5Gd (s:z3j) (x:UInt8):z3j:=
 let b':=s.b.set (s.n.toNat% 64) x
 ⟨if s.n.toNat% 64=63 then z5ia s.h b' else s.h,b',s.n+1⟩
def z3j.add (s:z3j) (m:List UInt8):z3j:=m.foldl z5Gd s
theorem z72c (s:z3j) (x:UInt8):(z5Gd s x).b.length=s.b.length:=by simp[z5Gd]
theorem z7Gb (m:List UInt8):∀s:z3j,(s.add m).b.length=s.b.length:=by
 induction m with
 |nil=>intro s;rfl
 |cons x m ih=>intro s;rw[z3j.add,List.foldl_cons];exact(ih _).trans (z72c s x)
theorem z3hb (s:z3j) (m k:List UInt8):s.add (m++k)=(s.add m).add k:=by simp[z3j.add]
theorem z3j.of_scs (s:z3j) (hb:s.b.length=64):z3j.of (scs s)=s:=by
 have h3:nth (scs s) 72=u64 s.n:=by
  rw[nth,←z84c,z99c hb]
 rw[z3j.of,z7Cd,z7sd hb,h3]
 simp
def z3j.init:z3j:=⟨iv,z5j 64,0⟩
def z0sb:z1f:=⟨fun ds=>ds=[],fun _=>z3j.init.v⟩
def z8sc:z1f:=⟨fun ds=>∃(s:z3j) (m:List UInt8),s.b.length=64∧ds=[s.v,st m],fun ds=>((z3j.of (gCs (nth ds 0))).add (gS (nth ds 1))).v⟩

theorem z8Qb (s:z3j) (hb:s.b.length=64):∀(j:Nat) (m:List UInt8),m.length=j→s.n.toNat% 64+j≤64→
  s.add m=⟨if s.n.toNat% 64+j=64 then z5ia s.h (s.b.take (s.n.toNat% 64)++(m++s.b.drop (s.n.toNat% 64+j))) else s.h,
   s.b.take (s.n.toNat% 64)++(m++s.b.drop (s.n.toNat% 64+j)),s.n+UInt64.ofNat j⟩
 |0,m,hm,h=>by
  have hm':=List.length_eq_zero_iff.1 hm
  subst hm'
  have h1:s.n.toNat% 64<64:=Nat.mod_lt _ (by decide)
  rw[if_neg (by omega)]
  simp[z3j.add]
 |j+1,m,hm,h=>by
  have hne:m≠[]:=fun e=>by rw[e] at hm;simp at hm
  obtain⟨k,x,rfl⟩:∃k x,m=k++[x]:=⟨m.dropLast,m.getLast hne,(List.dropLast_concat_getLast hne).symm⟩
  have hk:k.length=j:=by simp at hm;exact hm
  rw[z3hb,z8Qb s hb j k hk (by omega),if_neg (by omega)]
  have hn:(s.n+UInt64.ofNat j).toNat% 64=s.n.toNat% 64+j:=by
   rw[UInt64.toNat_add,UInt64.toNat_ofNat']
   omega
  have hset:(s.b.take (s.n.toNat% 64)++(k++s.b.drop (s.n.toNat% 64+j))).set (s.n.toNat% 64+j) x=s.b.take (s.n.toNat% 64)++((k++[x])++s.b.drop (s.n.toNat% 64+(j+1))):=by
   rw[List.drop_eq_getElem_cons (show s.n.toNat% 64+j<s.b.length by omega),←List.append_assoc,z4Pb (by simp[hk];omega)]
   simp[Nat.add_assoc]
  simp only[z3j.add,List.foldl_cons,List.foldl_nil,z5Gd,hn,hset]
  congr 1
  ·by_cases h63:s.n.toNat% 64+j=63
   ·rw[if_pos h63,if_pos (by omega)]
   ·rw[if_neg h63,if_neg (by omega)]
  ·rw[UInt64.add_assoc]
   congr 1
   apply UInt64.toNat_inj.1
   simp
end Go.Abs
end

section
namespace Go.Abs
def z9Xb (n:Nat):Nat:=(119-n% 64)% 64
def be8 (n:UInt64):Nat→List UInt8
 |0=>[]
 |i+1=>be8 n i++[(z5n n (56-8*i)).toUInt8]
theorem z7Kb (n:UInt64):∀i,(be8 n i).length=i
 |0=>rfl
 |i+1=>by simp[be8,z7Kb n i]
def z2la (n:UInt64):List UInt8:=(128::z5j (z9Xb n.toNat))++be8 (8*n) 8
def z6ba (h:H8):Nat→List UInt8
 |0=>[]
 |i+1=>z6ba h i++[(z8q (z8i h.l (i/4)) (24-8*(i% 4))).toUInt8]
theorem z1p (h:H8):∀i,(z6ba h i).length=i
 |0=>rfl
 |i+1=>by simp[z6ba,z1p h i]
def z3j.sum (s:z3j):List UInt8:=z6ba (s.add (z2la s.n)).h 32
def z2Lc:z1f:=⟨fun ds=>∃s:z3j,s.b.length=64∧s.n.toNat<1099511627776∧ds=[s.v],fun ds=> .agg (bys (z3j.of (gCs (nth ds 0))).sum)⟩
theorem z4Nd {s:z3j} {j:Nat} (h:j<8):hdA ((scs s).drop j)=u32 (z8i s.h.l j):=by
 rw[scs,List.drop_append_of_le_length (by simp;omega),z90,hdA]
 rw[show(z7g (s.h.l.drop j)++(bys s.b++[u64 s.n])).headD .undef=hdA (z7g (s.h.l.drop j)) by
  rw[List.drop_eq_getElem_cons (show j<s.h.l.length from h)];rfl]
 exact z93a h
theorem z9kc (n:Nat):z9Xb n<64:=Nat.mod_lt _ (by decide)
theorem z7lc (n:Nat):(n+(z9Xb n+1))% 64=56:=by unfold z9Xb;omega
theorem z5Xb (k:Nat):z5j k++[0]=z5j (k+1):=by
 simp[z5j,List.replicate_succ']
theorem z83b {t n:Nat} (h:t<n):z5j (n-t)=0::z5j (n-1-t):=by
 rw[show n-t=(n-1-t)+1 by omega];rfl
end Go.Abs
namespace Go.Abs
theorem z1Nd (m:List UInt8):∀s:z3j,(s.add m).n=s.n+UInt64.ofNat m.length:=by
 induction m with
 |nil=>intro s;simp[z3j.add]
 |cons x m ih=>
  intro s
  have:s.add (x::m)=(z5Gd s x).add m:=rfl
  rw[this,ih]
  simp only[z5Gd,List.length_cons]
  rw[UInt64.add_assoc]
  congr 1
  apply UInt64.toNat_inj.1
  simp
  omega
theorem z4Rb (m:List UInt8) (s:z3j) (h:s.n.toNat+m.length<18446744073709551616):(s.add m).n.toNat=s.n.toNat+m.length:=by
 rw[z1Nd,UInt64.toNat_add,UInt64.toNat_ofNat']
 omega
def sha (l:List UInt8):List UInt8:=(z3j.init.add l).sum
theorem z4o (l:List UInt8):(sha l).length=32:=z1p _ 32
theorem z6Ob:z3j.init.b.length=64:=by simp[z3j.init]
def z43b:z1f:=⟨fun ds=>∃(nl:Option Bool) (l:List UInt8),l.length<1099511627776∧ds=[.sl .plain nl l.length (bys l)],fun ds=> .agg (bys (sha (gBs (gCs (nth ds 0)))))⟩
end Go.Abs
end

section
namespace Go.Abs
def z6ca (k:List UInt8) (w:UInt8):List UInt8:=(k.take 64++z5j (64-k.length)).map (· ^^^w)
theorem z1A (k:List UInt8) (w:UInt8):(z6ca k w).length=64:=by simp[z6ca];omega
def z23 (key:List UInt8):List UInt8:=if 64<key.length then sha key else key
def mac (key text:List UInt8):List UInt8:=sha (z6ca (z23 key) 92++sha (z6ca (z23 key) 54++text))
def sts (l:List (List UInt8)):List z0a:=l.map st
@[simp] theorem z5V (l:List (List UInt8)):(sts l).length=l.length:=by simp[sts]
@[simp] theorem z1ia:sts []=[]:=rfl
theorem z44c (x:List UInt8) (l:List (List UInt8)):sts (x::l)=st x::sts l:=rfl
@[simp] theorem z6fa (l:List (List UInt8)) (n:Nat):(sts l).take n=sts (l.take n):=by simp[sts]
@[simp] theorem z87 (l:List (List UInt8)) (n:Nat):(sts l).drop n=sts (l.drop n):=by simp[sts]
def atS (l:List (List UInt8)) (i:Nat):List UInt8:=l.getD i []
theorem z1id {l:List (List UInt8)} {n:Nat} (h:n<l.length):hdA (sts (l.drop n))=st (atS l n):=by
 rw[List.drop_eq_getElem_cons h,z44c]
 simp[atS,List.getD,List.getElem?_eq_getElem h]
def gSs (l:List z0a):List (List UInt8):=l.map gS
@[simp] theorem z9fa (l:List (List UInt8)):gSs (sts l)=l:=by simp[gSs,sts,Function.comp_def]
@[simp] theorem z3la:gSs []=[]:=rfl
theorem z2i {P:z0a→Prop} {l:List (List UInt8)} (h:∀x,P (st x)):∀c∈sts l,P c:=fun c hc=>by
 simp only[sts,List.mem_map] at hc
 obtain⟨x,_,rfl⟩:=hc
 exact h x
@[simp] theorem z07 (l:List (List UInt8)):(∀c∈sts l,z0b c=true)↔True:=iff_true_intro (z2i (by simp))
@[simp] theorem z36 (l:List (List UInt8)):z8b (sts l)=true:=z2j (z2i (by simp))
@[simp] theorem z09 (l:List (List UInt8)):(∀c∈sts l,z8a c)↔True:=iff_true_intro (z2i (by simp))
@[simp] theorem z2pa (l:List (List UInt8)):(∀c∈sts l,z5b c=false)↔True:=iff_true_intro (z2i (by simp))
@[simp] theorem z4z (l:List (List UInt8)):(∀c∈sts l,z0b c=true∧z8a c)↔True:=iff_true_intro (z2i (by simp))
@[simp] theorem z55 (l:List (List UInt8)):z6b (sts l)=[]:=by induction l<;>simp_all [sts]
def z4ga (tag:Int) (parts:List (List UInt8)):List UInt8:=UInt8.ofInt tag::parts.flatMap z2X
def z0f (tag:Int) (parts:List (List UInt8)):List UInt8:=(sha (z4ga tag parts)).take 16
def z1qb (parts:List (List UInt8)):Nat:=(parts.map fun p=>p.length+9).sum
theorem z0zc {s:List UInt8} (h:s.length<1099511627776):(z2X s).length≤s.length+9:=by
 have:=z4Da (n:=s.length) ⟨by omega,by omega⟩
 simp[z2X];omega
def ofC:z1f:=⟨fun ds=>∃(tag:Int) (nl:Option Bool) (parts:List (List UInt8)),z1qb parts<1099511000000∧ds=[i64 tag,.sl .plain nl parts.length (sts parts)],fun ds=> .agg (bys (z0f (asI (nth ds 0)) (gSs (gCs (nth ds 1)))))⟩
theorem z0e (tag:Int) (parts:List (List UInt8)):(z0f tag parts).length=16:=by simp[z0f,z4o]

def svc (l:List UInt8):List z0a:=scs (z3j.init.add l)
theorem z6Fc (l:List UInt8):(z3j.init.add l).b.length=64:=by rw[z7Gb,z6Ob]
@[simp] theorem z9Sc (l:List UInt8):(svc l).length=73:=z5Ua (z6Fc l)
@[simp] theorem z73d (l:List UInt8):(∀c∈svc l,z8a c)↔True:=z47 _
@[simp] theorem z9ce (l:List UInt8):(∀c∈svc l,z5b c=false)↔True:=z4ka _
@[simp] theorem z9Kd (l:List UInt8):z8b (svc l)=true:=z2t _
@[simp] theorem z06d (l:List UInt8):(∀c∈svc l,z0b c=true)↔True:=z3aa _
@[simp] theorem z5ce (l:List UInt8):z7a (svc l)=true:=z9oa _
@[simp] theorem z22d (l:List UInt8):z6b (svc l)=[]:=z86 _
@[simp] theorem z74d (l:List UInt8):(svc l).take 73=svc l:=List.take_of_length_le (by rw[z9Sc];decide)
@[simp] theorem z1Fd {zs:List z0a} (l:List UInt8) (h:zs.length=73):splice zs 0 (svc l)=svc l:=z0qa (by rw[z9Sc,h])
@[simp] theorem z1Hd:(z7g (z9ua 8)++(bys (z5j 64)++[u64 0])).length=73:=z4yc
@[simp] theorem z4Id:z0sb.pre []=True:=by simp[z0sb]
@[simp] theorem z6Fd:z0sb.post []= .agg (svc []):=rfl
@[simp] theorem z97d (l m:List UInt8):z8sc.pre [.agg (svc l),st m]=True:=eq_true ⟨_,m,z6Fc l,rfl⟩
@[simp] theorem z71d (l m:List UInt8):z8sc.post [.agg (svc l),st m]= .agg (svc (l++m)):=by
 simp[z8sc,svc,z3j.v,z3j.of_scs _ (z6Fc l),z3hb]
theorem z7dd {l:List UInt8} {nl:Option Bool} {n:Nat} (hn:n=l.length) (h:l.length<1099511627776):z43b.pre [.sl .plain nl n (bys l)]=True:=eq_true ⟨nl,l,h,by rw[hn]⟩
@[simp] theorem z8Od (l:List UInt8) (nl:Option Bool) (n:Nat):z43b.post [.sl .plain nl n (bys l)]= .agg (bys (sha l)):=by simp[z43b]
theorem z9xd {l:List UInt8} (h:l.length<1099511627776):z2Lc.pre [.agg (svc l)]=True:=
 eq_true ⟨_,z6Fc l,by rw[z4Rb _ _ (by show 0+l.length<_;omega)];show 0+l.length<_;omega,rfl⟩
@[simp] theorem z84d (l:List UInt8):z2Lc.post [.agg (svc l)]= .agg (bys (sha l)):=by simp[z2Lc,svc,z3j.of_scs _ (z6Fc l),sha]
theorem z2Bb {s:List UInt8} (h:s.length≤1099511000000):z7lb.pre [st s]=True:=eq_true ⟨s,h,rfl⟩
@[simp] theorem z8Fd (s:List UInt8):z7lb.post [st s]= .sl (.own 1) (some false) (z2X s).length (bys (z2X s)):=by simp[z7lb]
theorem z8Td {tag:Int} {nl:Option Bool} {n:Nat} {l:List (List UInt8)} (hn:n=l.length) (h:z1qb l<1099511000000):ofC.pre [i64 tag,.sl .plain nl n (sts l)]=True:=eq_true ⟨tag,nl,l,h,by rw[hn]⟩
@[simp] theorem z7I (tag:Int) (nl:Option Bool) (n:Nat) (l:List (List UInt8)):ofC.post [i64 tag,.sl .plain nl n (sts l)]= .agg (bys (z0f tag l)):=by simp[ofC]
attribute [simp] z1A z4o z0e
theorem z5xa {zs:List z0a} {l:List UInt8} (h:l.length=zs.length):splice zs 0 (bys l)=bys l:=z0qa (by simpa using h)
theorem z3La:∀{l:List (List UInt8)},z1qb l<1099511000000→(l.flatMap z2X).length≤z1qb l
 |[],_=>by simp
 |x::l,h=>by
  simp only[z1qb,List.map_cons,List.sum_cons] at h
  have h1:=z0zc (s:=x) (by omega)
  have h2:=z3La (l:=l) (by simp only[z1qb];omega)
  simp only[z1qb] at h2
  simp only[List.flatMap_cons,List.length_append,z1qb,List.map_cons,List.sum_cons]
  omega
theorem z3Ub {l:List (List UInt8)} {i:Nat} (hi:i<l.length):(atS l i).length+9≤z1qb l:=by
 induction l generalizing i with
 |nil=>simp at hi
 |cons x l ih=>
  simp only[z1qb,List.map_cons,List.sum_cons]
  cases i with
  |zero=>simp[atS]
  |succ i=>
   have:=ih (i:=i) (by simpa using hi)
   simp only[z1qb] at this
   simp only[atS,List.getD_cons_succ] at this⊢
   omega
theorem z8Da {α β:Type} (l:List α) (f:α→List β) (d:α) {i:Nat} (hi:i<l.length):(l.take (i+1)).flatMap f=(l.take i).flatMap f++f (l.getD i d):=by
 rw[List.take_succ_eq_append_getElem hi,List.getD,List.getElem?_eq_getElem hi]
 simp only[List.flatMap_append,List.flatMap_cons,List.flatMap_nil,List.append_nil,Option.getD_some]
theorem z57d {l:List UInt8} {i:Nat} (h:i<l.length):l.take (i+1)=l.take i++[at8 l i]:=by
 rw[List.take_succ_eq_append_getElem h,at8,List.getD,List.getElem?_eq_getElem h];rfl
theorem z1Ab:∀l:List (List UInt8),l.length≤z1qb l
 |[]=>by simp
 |x::l=>by
  have:=z1Ab l
  simp only[z1qb,List.map_cons,List.sum_cons,List.length_cons] at this⊢
  omega
theorem z0bc (l:List (List UInt8)) (i:Nat):z1qb (l.take i)≤z1qb l:=by
 have:z1qb l=z1qb (l.take i)+z1qb (l.drop i):=by
  simp only[z1qb]
  rw[←List.sum_append,←List.map_append,List.take_append_drop]
 omega
end Go.Abs
end

section
namespace Go.Abs
def z6da (b:List UInt8) (s:Nat):Nat:=if(z6m b).2.2≠0 then(z6m b).2.2 else if(z6m b).1<0 then 6 else if(b.length-(z6m b).2.1)/s<(z6m b).1.toNat then 5 else 0
def z36d (b:List UInt8):List UInt8×Nat×Nat:=if z6da b 1=0 then((b.drop (z6m b).2.1).take (z6m b).1.toNat,(z6m b).2.1+(z6m b).1.toNat,0) else([],0,z6da b 1)
def z46 {α:Type} (f:List UInt8→α×Nat×Nat):Nat→List UInt8→Nat→List α×Nat×Nat
 |0,_,at'=>([],at',0)
 |n+1,b,at'=>if(f (b.drop at')).2.2≠0 then([],0,(f (b.drop at')).2.2)
  else if(z46 f n b (at'+(f (b.drop at')).2.1)).2.2≠0 then([],0,(z46 f n b (at'+(f (b.drop at')).2.1)).2.2)
  else((f (b.drop at')).1::(z46 f n b (at'+(f (b.drop at')).2.1)).1,(z46 f n b (at'+(f (b.drop at')).2.1)).2.1,0)
def z0oa {α:Type} (f:List UInt8→α×Nat×Nat) (s:Nat) (b:List UInt8):List α×Nat×Nat:=if z6da b s=0 then z46 f (z6m b).1.toNat b (z6m b).2.1 else([],0,z6da b s)

/-! ### Lists of whole numbers as cells -/
def z6Ba (l:List Int):List z0a:=l.map i64
def atI (l:List Int) (i:Nat):Int:=l.getD i 0
def gIs (l:List z0a):List Int:=l.map asI
@[simp] theorem z6pd (l:List Int):(z6Ba l).length=l.length:=by simp[z6Ba]
@[simp] theorem z61d:z6Ba []=[]:=rfl
theorem z4Mc (x:Int) (l:List Int):z6Ba (x::l)=i64 x::z6Ba l:=rfl
@[simp] theorem z2Sd (l:List Int) (n:Nat):(z6Ba l).take n=z6Ba (l.take n):=by simp[z6Ba]
@[simp] theorem z3Td (l:List Int) (n:Nat):(z6Ba l).drop n=z6Ba (l.drop n):=by simp[z6Ba]
@[simp] theorem z64d (l:List Int):gIs (z6Ba l)=l:=by simp[gIs,z6Ba,Function.comp_def]
theorem z4qb {l:List Int} {n:Nat} (h:n<l.length):hdA (z6Ba (l.drop n))=i64 (atI l n):=by
 rw[List.drop_eq_getElem_cons h,z4Mc]
 simp[atI,List.getD,List.getElem?_eq_getElem h]
theorem z4Eb {P:z0a→Prop} {l:List Int} (h:∀x,P (i64 x)):∀c∈z6Ba l,P c:=fun c hc=>by
 simp only[z6Ba,List.mem_map] at hc
 obtain⟨x,_,rfl⟩:=hc
 exact h x
@[simp] theorem z7Zd (l:List Int):(∀c∈z6Ba l,z0b c=true)↔True:=iff_true_intro (z4Eb (by simp))
@[simp] theorem z2Hd (l:List Int):z8b (z6Ba l)=true:=z2j (z4Eb (by simp))
@[simp] theorem z6Xd (l:List Int):(∀c∈z6Ba l,z8a c)↔True:=iff_true_intro (z4Eb (by simp))
@[simp] theorem z35d (l:List Int):(∀c∈z6Ba l,z5b c=false)↔True:=iff_true_intro (z4Eb (by simp))
@[simp] theorem z7Zc (l:List Int):(∀c∈z6Ba l,z0b c=true∧z8a c)↔True:=iff_true_intro (z4Eb (by simp))
@[simp] theorem z0Hd (l:List Int):z6b (z6Ba l)=[]:=by induction l<;>simp_all [z6Ba]

def pre {α:Type} (out:List α) (r:List α×Nat×Nat):List α×Nat×Nat:=if r.2.2≠0 then([],0,r.2.2) else(out++r.1,r.2.1,0)
@[simp] theorem z5D (l:List (List UInt8)):z7a (sts l)=true:=by induction l<;>simp_all [sts,z7a,z6c,st]
def z10d (b:List UInt8):List UInt8×Nat×Nat:=if z6da b 16=0 then((b.drop (z6m b).2.1).take ((z6m b).1.toNat*16),(z6m b).2.1+(z6m b).1.toNat*16,0) else([],0,z6da b 16)
end Go.Abs
end

section
namespace Go.Abs
def z9Ya (b:List UInt8):List UInt8:=b++z2la (UInt64.ofNat b.length)
theorem z5Uc (n:UInt64):(z2la n).length=z9Xb n.toNat+9:=by simp[z2la,z7Kb]
theorem z1Jb {b:List UInt8} (h:b.length<1099511627776):(z9Ya b).length% 64=0∧b.length<(z9Ya b).length∧(z9Ya b).length≤b.length+128:=by
 have hn:(UInt64.ofNat b.length).toNat=b.length:=by rw[UInt64.toNat_ofNat'];omega
 have h1:=z7lc b.length
 have h2:=z9kc b.length
 simp only[z9Ya,List.length_append,z5Uc,hn]
 omega
def blk (m:List UInt8) (s:H8):Nat→H8
 |0=>s
 |k+1=>z5ia (blk m s k) ((m.drop (64*k)).take 64)
theorem z21b (m:List UInt8):∀k,64*k≤m.length→64*k<1099511627776→(z3j.init.add (m.take (64*k))).h=blk m iv k
 |0,_,_=>by simp[z3j.add,blk,z3j.init]
 |k+1,h,h'=>by
  have ih:=z21b m k (by omega) (by omega)
  have hb:=z6Fc (m.take (64*k))
  have hn:(z3j.init.add (m.take (64*k))).n.toNat=64*k:=by
   have e:z3j.init.n.toNat=0:=rfl
   rw[z4Rb _ _ (by rw[e];simp;omega),e,List.length_take]
   omega
  have h64:(z3j.init.add (m.take (64*k))).n.toNat% 64=0:=by rw[hn];omega
  rw[show 64*(k+1)=64*k+64 by omega,List.take_add,z3hb,z8Qb _ hb 64 _ (by simp;omega) (by omega)]
  simp only[h64,Nat.zero_add,if_true,List.take_zero,List.nil_append,ih,blk]
  have hd:List.drop 64 (z3j.init.add (m.take (64*k))).b=[]:=List.drop_of_length_le (by omega)
  rw[hd,List.append_nil]
theorem z7Hc {b:List UInt8} (h:b.length<1099511000000):sha b=z6ba (blk (z9Ya b) iv ((z9Ya b).length/64)) 32:=by
 obtain⟨h1,h2,h3⟩:=z1Jb (b:=b) (by omega)
 have e:=z21b (z9Ya b) ((z9Ya b).length/64) (by omega) (by omega)
 rw[show 64*((z9Ya b).length/64)=(z9Ya b).length by omega,List.take_length] at e
 have hn:(z3j.init.add b).n=UInt64.ofNat b.length:=by rw[z1Nd];exact UInt64.zero_add _
 rw[←e,sha,z3j.sum,z9Ya,z3hb,hn]
def few (l:List (List UInt8)):Bool:=decide (l.length≤12)&&l.all fun s=>decide (s.length≤400)
def z34b:z1f:=⟨fun ds=>∃x n,0≤n∧n≤32∧ds=[u32 x,i64 n],fun ds=>u32 (z0w (z3ka (nth ds 0)) (asI (nth ds 1)).toNat)⟩
def z7ob:z1f:=⟨fun ds=>∃(nl:Option Bool) (b:List UInt8),b.length<1099511000000∧ds=[.sl .plain nl b.length (bys b)],fun ds=> .sl (.own 1) (some false) (z9Ya (gBs (gCs (nth ds 0)))).length (bys (z9Ya (gBs (gCs (nth ds 0)))))⟩
def z1jc:z1f:=⟨fun ds=>∃(nl:Option Bool) (l:List UInt8),l.length<1099511000000∧ds=[.sl .plain nl l.length (bys l)],fun ds=> .agg (bys (sha (gBs (gCs (nth ds 0)))))⟩
def z8Lb:z1f:=⟨fun ds=>∃(nl:Option Bool) (l:List UInt8),l.length<1099511000000∧ds=[.sl .plain nl l.length (bys l)],fun ds=> .agg (bys ((sha (gBs (gCs (nth ds 0)))).take 16))⟩
def z4Lb:z1f:=⟨fun ds=>∃(tag:Int) (nl:Option Bool) (l:List (List UInt8)),z1qb l<1099510000000∧ds=[i64 tag,.sl .plain nl l.length (sts l)],
 fun ds=> .sl (.own 1) (some false) (z4ga (asI (nth ds 0)) (gSs (gCs (nth ds 1)))).length (bys (z4ga (asI (nth ds 0)) (gSs (gCs (nth ds 1)))))⟩
def z22c:z1f:=⟨fun ds=>∃(tag:Int) (nl:Option Bool) (l:List (List UInt8)),z1qb l<1099510000000∧ds=[i64 tag,.sl .plain nl l.length (sts l)],fun ds=> .agg (bys (z0f (asI (nth ds 0)) (gSs (gCs (nth ds 1)))))⟩
def z0ic:z1f:=⟨fun ds=>∃n,z2e n∧ds=[i64 n],fun ds=> .sl (.own 1) none (z3r (asI (nth ds 0))).length (bys (z3r (asI (nth ds 0))))⟩
def z2pb:z1f:=⟨fun ds=>∃s:List UInt8,s.length≤1099511000000∧ds=[st s],fun ds=> .sl (.own 1) none (z2X (gS (nth ds 0))).length (bys (z2X (gS (nth ds 0))))⟩
theorem z7wc {x:UInt32} {n:Int} (h0:0≤n) (h1:n≤32):z34b.pre [u32 x,i64 n]=True:=eq_true ⟨x,n,h0,h1,rfl⟩
@[simp] theorem z4Kd (x:UInt32) (n:Int):z34b.post [u32 x,i64 n]=u32 (z0w x n.toNat):=by simp[z34b]
theorem z2Mc {b:List UInt8} {nl:Option Bool} {n:Nat} (hn:n=64) (h:b.length=64):z96a.pre [.sl .plain nl n (bys b)]=True:=eq_true ⟨nl,b,h,by rw[hn]⟩
@[simp] theorem z6Gd (b:List UInt8) (nl:Option Bool) (n:Nat):z96a.post [.sl .plain nl n (bys b)]= .agg (z7g (z4N b 64)):=by simp[z96a]
theorem z8Ec {b:List UInt8} {nl:Option Bool} {n:Nat} (hn:n=b.length) (h:b.length<1099511000000):z7ob.pre [.sl .plain nl n (bys b)]=True:=eq_true ⟨nl,b,h,by rw[hn]⟩
@[simp] theorem z8kd (b:List UInt8) (nl:Option Bool) (n:Nat):z7ob.post [.sl .plain nl n (bys b)]= .sl (.own 1) (some false) (z9Ya b).length (bys (z9Ya b)):=by simp[z7ob]
theorem z2cd {l:List UInt8} {nl:Option Bool} {n:Nat} (hn:n=l.length) (h:l.length<1099511000000):z1jc.pre [.sl .plain nl n (bys l)]=True:=eq_true ⟨nl,l,h,by rw[hn]⟩
@[simp] theorem z5Hd (l:List UInt8) (nl:Option Bool) (n:Nat):z1jc.post [.sl .plain nl n (bys l)]= .agg (bys (sha l)):=by simp[z1jc]
theorem z3Ic {l:List UInt8} {nl:Option Bool} {n:Nat} (hn:n=l.length) (h:l.length<1099511000000):z8Lb.pre [.sl .plain nl n (bys l)]=True:=eq_true ⟨nl,l,h,by rw[hn]⟩
@[simp] theorem z7Fd (l:List UInt8) (nl:Option Bool) (n:Nat):z8Lb.post [.sl .plain nl n (bys l)]= .agg (bys ((sha l).take 16)):=by simp[z8Lb]
theorem z0Sc {tag:Int} {nl:Option Bool} {n:Nat} {l:List (List UInt8)} (hn:n=l.length) (h:z1qb l<1099510000000):z4Lb.pre [i64 tag,.sl .plain nl n (sts l)]=True:=eq_true ⟨tag,nl,l,h,by rw[hn]⟩
@[simp] theorem z5Fd (tag:Int) (nl:Option Bool) (n:Nat) (l:List (List UInt8)):z4Lb.post [i64 tag,.sl .plain nl n (sts l)]= .sl (.own 1) (some false) (z4ga tag l).length (bys (z4ga tag l)):=by simp[z4Lb]
@[simp] theorem z0C (tag:Int) (nl:Option Bool) (n:Nat) (l:List (List UInt8)):z22c.post [i64 tag,.sl .plain nl n (sts l)]= .agg (bys (z0f tag l)):=by simp[z22c]
theorem z88c {n:Int} (h0: -9223372036854775808≤n) (h1:n≤9223372036854775807):z0ic.pre [i64 n]=True:=eq_true ⟨n,⟨h0,h1⟩,rfl⟩
@[simp] theorem z2Ld (n:Int):z0ic.post [i64 n]= .sl (.own 1) none (z3r n).length (bys (z3r n)):=by simp[z0ic]
theorem z4Ec {s:List UInt8} (h:s.length≤1099511000000):z2pb.pre [st s]=True:=eq_true ⟨s,h,rfl⟩
@[simp] theorem z2md (s:List UInt8):z2pb.post [st s]= .sl (.own 1) none (z2X s).length (bys (z2X s)):=by simp[z2pb]
theorem z63b {n:Int} (h0: -9223372036854775808≤n) (h1:n≤9223372036854775807):z2L.pre [i64 n]=True:=eq_true ⟨n,⟨h0,h1⟩,rfl⟩
@[simp] theorem z96 (n:Int):z2L.post [i64 n]= .sl (.own 1) (some false) (z3r n).length (bys (z3r n)):=by simp[z2L]
end Go.Abs
end

section
namespace Go.Abs
def z5y (l:List Int):List UInt8:=z3r l.length++l.flatMap z3r
def z9Nd (l:List (List UInt8)):List UInt8:=z3r l.length++l.flatMap z2X
def z1Td (n:Nat) (d:List UInt8):List UInt8:=z3r n++d
theorem z0Nc {n:Nat} (h:n≤9223372036854775807):z2e (n:Int):=⟨by omega,by omega⟩
theorem z1xa:∀{l:List Int},(∀x∈l,z2e x)→(l.flatMap z3r).length≤9*l.length
 |[],_=>by simp
 |x::l,h=>by
  have h1:=z4Da (h x (by simp))
  have h2:=z1xa (l:=l) fun y hy=>h y (by simp[hy])
  simp only[List.flatMap_cons,List.length_append,List.length_cons]
  omega
theorem z8nc {l:List Int} {i:Nat} (h:i<l.length):atI l i∈l:=by simp[atI,List.getD,List.getElem?_eq_getElem h]
def own1 (nf:Option Bool) (l:List UInt8):z0a:= .sl (.own 1) nf l.length (bys l)
def z43d (f:List Int→z0a):z1f:=⟨fun ds=>∃nl l,l.length≤100000000∧(∀x∈l,z2e x)∧ds=[.sl .plain nl l.length (z6Ba l)],fun ds=>f (gIs (gCs (nth ds 0)))⟩
theorem z2Ac {f:List Int→z0a} {nl:Option Bool} {n:Nat} {l:List Int} (h:l.length≤100000000) (hl:∀x∈l,z2e x) (hn:n=l.length):(z43d f).pre [.sl .plain nl n (z6Ba l)]=True:=by
 subst hn;exact eq_true ⟨nl,l,h,hl,rfl⟩
@[simp] theorem z0Vb (f:List Int→z0a) (m:z4r) (nl:Option Bool) (n:Nat) (l:List Int):(z43d f).post [.sl m nl n (z6Ba l)]=f l:=by simp[z43d]
def z0Ra:z1f:=z43d fun l=>own1 (some false) (z5y l)
def z4Oa:z1f:=⟨fun ds=>∃nl nl' a b,a.length≤1000000000∧ds=[.sl .plain nl a.length (z6Ba a),.sl .plain nl' b.length (z6Ba b)],fun ds=>bo (gIs (gCs (nth ds 0))==gIs (gCs (nth ds 1)))⟩
theorem z7Vb {nl nl':Option Bool} {n m:Nat} {a b:List Int} (h:a.length≤1000000000) (hn:n=a.length) (hm:m=b.length):z4Oa.pre [.sl .plain nl n (z6Ba a),.sl .plain nl' m (z6Ba b)]=True:=by
 subst hn;subst hm;exact eq_true ⟨nl,nl',a,b,h,rfl⟩
@[simp] theorem z0Gd (m m':z4r) (nl nl':Option Bool) (n k:Nat) (a b:List Int):z4Oa.post [.sl m nl n (z6Ba a),.sl m' nl' k (z6Ba b)]=bo (a==b):=by simp[z4Oa]
def z79a:z1f:=⟨fun ds=>∃nl nl' n m a b,n≤10000000∧a.length=n*16∧b.length=m*16∧ds=[.sl .plain nl n (bys a),.sl .plain nl' m (bys b)],fun ds=>bo (gBs (gCs (nth ds 0))==gBs (gCs (nth ds 1)))⟩
@[simp] theorem z4Fd (m m':z4r) (nl nl':Option Bool) (n k:Nat) (a b:List UInt8):z79a.post [.sl m nl n (bys a),.sl m' nl' k (bys b)]=bo (a==b):=by simp[z79a]
end Go.Abs
end
