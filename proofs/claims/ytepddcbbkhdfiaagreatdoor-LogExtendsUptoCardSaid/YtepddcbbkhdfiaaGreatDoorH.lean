/- Lemmas: an abstract interpreter, and what the functions compute. -/
import Derived.Test.YtepddcbbkhdfiaaGreatDoorG
set_option linter.unusedSimpArgs false
set_option linter.unusedVariables false
set_option linter.unusedSectionVars false
section
namespace Go.Abs
set_option maxRecDepth 100000
def z4X:z6e:=
 {n:=1,wr:=[],res:=[.cell 2 (some 32) 2],body:=YR [2] [.norm [2]] [Yz 2 2 32] (YR [2] [.norm [2]] [YT 3 0 [],Ym 4 0,Yo 5 (.toStr none (.s 4)),YK 6 1 3 5,Yk 7 2 6,Ys 32 2 2 7] .ret)}
def z2D:z6e:=
 {n:=0,wr:=[],res:=[.cell 0 (some 73) 0],body:=YR [0] [.norm [0]] [Yo 0 (.alloc 0 (z6o (z6i 8)++bys (z9c 64)++[u64 0]))] (YR [0] [.norm [0]] [Yo 1 (.build [u32 0,u32 0,u32 0,u32 0,u32 0,u32 0,u32 0,u32 0] [(0,1,.c (u32 1779033703)),(1,1,.c (u32 3144134277)),(2,1,.c (u32 1013904242)),(3,1,.c (u32 2773480762)),(4,1,.c (u32 1359893119)),(5,1,.c (u32 2600822924)),(6,1,.c (u32 528734635)),(7,1,.c (u32 1541459225))]),Yo 2 (.build (z6o (z6i 8)++bys (z9c 64)++[u64 0]) [(0,8,.s 1)]),Ys 73 0 0 2] .ret)}
def z4o:z6e:=
 {n:=2,wr:=[1],res:=[.cell 4 (some 73) 4],body:=YR [1,2,4] [.norm [2,4]] [Yx 2 2 73 0,Yo 4 (.alloc 4 (z6o (z6i 8)++bys (z9c 64)++[u64 0]))] (Yq (.block 0 (.loop (Yq (Yr [1,2,4,8] [Ym 7 1,Yo 8 (.bin .neq (.s 7) (.c (st [])))] (Yd 8 (Yy [1,2,4]) (YY [2,4]))) (.block 1 (YR [1,2,4,5] [.norm [2,4]] [Yf 9 72 2,Yl 10 2 9,Yo 11 (.bin .rem (.s 10) (.c (u64 64))),Yo 12 (.toInt .i64 (.s 11)),Ym 5 12] (YR [1,2,4,5,6] [.norm [2,4]] [Yf 13 8 2,Ym 14 5,Yo 15 (.slArr 64 1 (.s 13) (some (.s 14)) none none),Ym 16 1,Yo 17 (.copy 1 true 2 none (.s 15) (.s 16)),Ym 6 17] (Yr [1,2,4,5,6] [Ym 18 1,Ym 19 6,Yo 20 (.slStr (.s 18) (some (.s 19)) none),Ym 1 20] (YR [1,2,4,5,6] [.norm [2,4]] [Yf 21 72 2,Yl 22 2 21,Ym 23 6,Yo 24 (.toInt .u64 (.s 23)),Yb 25 .add 22 24,Yf 26 72 2,YS 2 26 25] (Yr [1,2,4,30] [Ym 27 5,Ym 28 6,Yb 29 .add 27 28,YB 30 .eql 29 64] (Yd 30 (.region [1,2,4] [.norm [2,4]] [Yf 31 0 2,YL 32 8 2 31,Yf 33 8 2,Yo 34 (.slArr 64 1 (.s 33) none none none),Yo 35 (.call 4 [.s 32,.s 34] [2]),Yf 36 0 2,Ys 8 2 36 35]) (Yy [1,2,4]))))))))))) (YR [4] [.norm [2,4]] [YL 37 73 2 2,Ys 73 4 4 37] .ret))}
def z5o:z6e:=
 {n:=1,wr:=[],res:=[.cell 2 (some 32) 2],body:=YR [1,2] [.norm [1,2]] [Yx 1 1 73 0,Yz 2 2 32] (YR [1,2,3] [.norm [1,2]] [Yf 8 72 1,Yl 9 1 8,Yo 10 (.bin .mul (.c (u64 8)) (.s 9)),Ym 3 10] (Yr [1,2,3,4] [Yo 11 (.buildSl 1 1 [u8 0] [(0,1,.c (u8 128))]),YM 4 11] (Yq (.block 0 (.loop (Yq (YR [1,2,3,4,19] [.norm [1,2]] [Yf 12 72 1,Yl 13 1 12,Yo 14 (.toInt .i64 (.s 13)),Ym 15 4,Yn 16 15,Yb 17 .add 14 16,YB 18 .rem 17 64,YB 19 .neq 18 56] (Yd 19 (Yy [1,2,3,4]) (YY [1,2,3,4]))) (.block 1 (Yu [1,2,3,4] [YM 20 4,Yo 21 (.buildSl 1 1 [u8 0] [(0,1,.c (u8 0))]),Yo 22 (.append 1 1 false (some false) none 20 (.s 21)),YM 4 22]))))) (Yq (Yr [1,2,3,4,23] [Yc 23 0] (.block 2 (.loop (Yr [1,2,3,4,23,24] [YB 24 .lss 23 8] (Yq (Yd 24 (Yy [1,2,3,4,23]) (.ghost (.keep [1,2,4]) (.exit 2))) (Yq (.block 3 (Yr [1,2,3,4,5,23] [Ym 25 23,Ym 5 25] (Yu [1,2,3,4,23] [YM 26 4,Ym 27 3,Ym 28 5,Yo 29 (.bin .mul (.c (i64 8)) (.s 28)),Yo 30 (.bin .sub (.c (i64 56)) (.s 29)),Yb 31 .shr 27 30,Yo 32 (.toInt .u8 (.s 31)),Yo 33 (.buildSl 1 1 [u8 0] [(0,1,.s 32)]),Yo 34 (.append 1 1 false (some false) none 26 (.s 33)),YM 4 34]))) (Yu [1,2,3,4,23] [YB 35 .add 23 1,Ym 23 35]))))))) (YR [1,2] [.norm [1,2]] [YL 36 73 1 1,YM 37 4,Yo 38 (.toStr none (.s 37)),YK 39 1 36 38,Ys 73 1 1 39] (YR [1,2,6] [.norm [1,2,6]] [Yz 6 6 32] (Yq (Yr [1,2,6,40] [Yc 40 0] (.block 4 (.loop (Yr [1,2,6,40,41] [YB 41 .lss 40 32] (Yq (Yd 41 (Yy [1,2,6,40]) (.ghost (.keep [2,6]) (.exit 4))) (Yq (.block 5 (Yr [1,2,6,7,40] [Ym 42 40,Ym 7 42] (.region [1,2,6,40] [.norm [1,2,6]] [Ym 43 7,Ym 44 7,YB 45 .quo 44 4,Yf 46 0 1,Ya 47 8 1 46 45,Yl 48 1 47,Ym 49 7,YB 50 .rem 49 4,Yo 51 (.bin .mul (.c (i64 8)) (.s 50)),Yo 52 (.bin .sub (.c (i64 24)) (.s 51)),Yb 53 .shr 48 52,Yo 54 (.toInt .u8 (.s 53)),Ya 55 32 1 6 43,YS 6 55 54]))) (Yu [1,2,6,40] [YB 56 .add 40 1,Ym 40 56]))))))) (YR [2] [.norm [1,2,6]] [YL 57 32 6 6,Ys 32 2 2 57] .ret))))))))}
def z4da:z6e:=
 {n:=2,wr:=[],res:=[.cell 4 (some 16) 4],body:=YR [4] [.norm [4]] [Yz 4 4 16] (YR [4,5] [.norm [4,5]] [YT 9 0 [],Ym 10 0,Yo 11 (.toInt .u8 (.s 10)),Yo 12 (.buildSl 1 1 [u8 0] [(0,1,.s 11)]),Yo 13 (.toStr none (.s 12)),YK 14 1 9 13,Yo 5 (.alloc 5 (z6o (z6i 8)++bys (z9c 64)++[u64 0])),Ys 73 5 5 14] (Yq (Yr [4,5,15,16,17] [Ym 15 1,Yn 16 15,Yc 17 0] (.block 0 (.loop (Yr [4,5,15,16,17,18] [Yb 18 .lss 17 16] (Yq (Yd 18 (Yy [4,5,15,16,17]) (YY [4,5])) (Yq (.block 1 (YR [4,5,7,15,16,17] [.norm [4,5]] [Yi 19 1 15 17,Yj 20 19,Ym 7 20] (.region [4,5,15,16,17] [.norm [4,5]] [YL 21 73 5 5,Ym 22 7,Yk 23 7 22,Yo 24 (.toStr none (.s 23)),YK 25 1 21 24,Ys 73 5 5 25]))) (Yu [4,5,15,16,17] [YB 26 .add 17 1,Ym 17 26]))))))) (YR [4,8] [.norm [4,5,8]] [YL 27 73 5 5,Yk 28 2 27,Yz 8 8 32,Ys 32 8 8 28] (YR [4] [.norm [4,5,8]] [Yo 29 (.slArr 32 1 (.s 8) none (some (.c (i64 16))) none),Yo 30 (.s2ap 16 (.s 29)),YL 31 16 8 30,Ys 16 4 4 31] .ret))))}
def z2t:z6e:=
 {n:=2,wr:=[],res:=[.cell 4 (some 8) 4],body:=YR [2,4] [.norm [2,4]] [Yx 2 2 8 0,Yo 4 (.alloc 4 (z6o (z6i 8)))] (YR [2,4,5] [.norm [2,4,5]] [Ym 13 1,Yk 14 10 13,Yo 5 (.alloc 5 (z6o (z6i 64))),Ys 64 5 5 14] (YR [2,4,5,6,7] [.norm [2,4,5,6,7]] [Yo 15 (.slArr 8 1 (.s 2) none (some (.c (i64 4))) none),Yo 16 (.s2ap 4 (.s 15)),YL 17 4 2 16,Yo 18 (.slArr 8 1 (.s 2) (some (.c (i64 4))) none none),Yo 19 (.s2ap 4 (.s 18)),YL 20 4 2 19,Yo 6 (.alloc 6 [u32 0,u32 0,u32 0,u32 0]),Yo 7 (.alloc 7 [u32 0,u32 0,u32 0,u32 0]),Ys 4 6 6 17,Ys 4 7 7 20] (Yq (YR [2,4,5,6,7,21,22] [.norm [2,4,5,6,7]] [Yo 21 (.load (some 64) none false (.g 0)),Yc 22 0] (.block 0 (.loop (Yr [2,4,5,6,7,21,22,23] [YB 23 .lss 22 64] (Yq (Yd 23 (Yy [2,4,5,6,7,21,22]) (YY [2,4,6,7])) (Yq (.block 1 (Yr [2,4,5,6,7,8,9,21,22] [Ym 24 22,Yo 25 (.idxA none 1 64 (.s 21) (.s 22)),Ym 8 24,Ym 9 25] (YR [2,4,5,6,7,10,21,22] [.norm [2,4,5,6,7]] [YA 26 4 1 7 3,Yl 27 7 26,YA 28 4 1 7 0,Yl 29 7 28,Yo 30 (.call 11 [.s 29,.c (i64 6),.c (i64 11),.c (i64 25)] []),Yb 31 .add 27 30,YA 32 4 1 7 0,Yl 33 7 32,YA 34 4 1 7 1,Yl 35 7 34,Yb 36 .and 33 35,YA 37 4 1 7 0,Yl 38 7 37,Yo 39 (.un .xor (.s 38)),YA 40 4 1 7 2,Yl 41 7 40,Yb 42 .and 39 41,Yb 43 .xor 36 42,Yb 44 .add 31 43,Ym 45 9,Yb 46 .add 44 45,Ym 47 8,Ya 48 64 1 5 47,Yl 49 5 48,Yb 50 .add 46 49,Ym 10 50] (YR [2,4,5,6,7,10,11,21,22] [.norm [2,4,5,6,7]] [YA 51 4 1 6 0,Yl 52 6 51,Yo 53 (.call 11 [.s 52,.c (i64 2),.c (i64 13),.c (i64 22)] []),YA 54 4 1 6 0,Yl 55 6 54,YA 56 4 1 6 1,Yl 57 6 56,Yb 58 .and 55 57,YA 59 4 1 6 0,Yl 60 6 59,YA 61 4 1 6 2,Yl 62 6 61,Yb 63 .and 60 62,Yb 64 .xor 58 63,YA 65 4 1 6 1,Yl 66 6 65,YA 67 4 1 6 2,Yl 68 6 67,Yb 69 .and 66 68,Yb 70 .xor 64 69,Yb 71 .add 53 70,Ym 11 71] (YR [2,4,5,6,7,10,11,21,22] [.norm [2,4,5,6,7]] [YA 72 4 1 6 3,Yl 73 6 72,Ym 74 10,Yb 75 .add 73 74,YA 76 4 1 7 0,Yl 77 7 76,YA 78 4 1 7 1,Yl 79 7 78,YA 80 4 1 7 2,Yl 81 7 80,Yo 82 (.build [u32 0,u32 0,u32 0,u32 0] [(0,1,.s 75),(1,1,.s 77),(2,1,.s 79),(3,1,.s 81)]),Ys 4 7 7 82] (.region [2,4,5,6,7,21,22] [.norm [2,4,5,6,7]] [Ym 83 10,Ym 84 11,Yb 85 .add 83 84,YA 86 4 1 6 0,Yl 87 6 86,YA 88 4 1 6 1,Yl 89 6 88,YA 90 4 1 6 2,Yl 91 6 90,Yo 92 (.build [u32 0,u32 0,u32 0,u32 0] [(0,1,.s 85),(1,1,.s 87),(2,1,.s 89),(3,1,.s 91)]),Ys 4 6 6 92])))))) (Yu [2,4,5,6,7,21,22] [YB 93 .add 22 1,Ym 22 93]))))))) (Yq (Yr [2,4,6,7,94] [Yc 94 0] (.block 2 (.loop (Yr [2,4,6,7,94,95] [YB 95 .lss 94 4] (Yq (Yd 95 (Yy [2,4,6,7,94]) (.ghost (.keep [2,4]) (.exit 2))) (Yq (.block 3 (Yr [2,4,6,7,12,94] [Ym 96 94,Ym 12 96] (YR [2,4,6,7,12,94] [.norm [2,4,5,6,7]] [Ym 97 12,Ya 98 8 1 2 97,Yl 99 2 98,Ym 100 12,Ya 101 4 1 6 100,Yl 102 6 101,Yb 103 .add 99 102,Ya 104 8 1 2 97,YS 2 104 103] (.region [2,4,6,7,94] [.norm [2,4,5,6,7]] [Ym 105 12,YB 106 .add 105 4,Ya 107 8 1 2 106,Yl 108 2 107,Ym 109 12,Ya 110 4 1 7 109,Yl 111 7 110,Yb 112 .add 108 111,Ya 113 8 1 2 106,YS 2 113 112])))) (Yu [2,4,6,7,94] [YB 114 .add 94 1,Ym 94 114]))))))) (YR [4] [.norm [2,4,5,6,7]] [YL 115 8 2 2,Ys 8 4 4 115] .ret)))))}
def z9y:z6e:=
 {n:=1,wr:=[],res:=[.t 2],body:=Yr [] [Yo 2 (.mv true (.c (.sl (.own 1) none 0 [])))] (Yr [2] [Ym 3 0,Yo 4 (.len true (.s 3)),Yk 5 12 4,Ym 6 0,Yo 7 (.append 1 1 true (some false) none 5 (.s 6)),YM 2 7] .ret)}
def z8s:z6e:=
 {n:=1,wr:=[],res:=[.cell 2 (some 64) 2],body:=YR [2] [.norm [2]] [Yo 2 (.alloc 2 (z6o (z6i 64)))] (YR [2,3] [.norm [2,3]] [Yo 3 (.alloc 3 (z6o (z6i 64)))] (Yq (Yr [2,3,11] [Yc 11 0] (.block 0 (.loop (Yr [2,3,11,12] [YB 12 .lss 11 64] (Yq (Yd 12 (Yy [2,3,11]) (YY [2,3])) (Yq (.block 1 (Yr [2,3,4,11] [Ym 13 11,Ym 4 13] (Yq (Yr [2,3,4,11,15] [Ym 14 4,YB 15 .lss 14 16] (Yd 15 (Yq (Yr [2,3,4,11,22,23,24] [Ym 16 0,Ym 17 4,Yo 18 (.bin .mul (.c (i64 4)) (.s 17)),Ym 19 4,Yo 20 (.bin .mul (.c (i64 4)) (.s 19)),YB 21 .add 20 4,Yo 22 (.slSl 1 (.s 16) (some (.s 18)) (some (.s 21)) none),Yn 23 22,Yc 24 0] (.block 2 (.loop (Yr [2,3,4,11,22,23,24,25] [Yb 25 .lss 24 23] (Yq (Yd 25 (Yy [2,3,4,11,22,23,24]) (.ghost (.keep [2,3,11]) (.exit 2))) (Yq (.block 3 (YR [2,3,4,6,11,22,23,24] [.norm [2,3]] [Yi 26 1 22 24,Yj 27 26,Ym 6 27] (.region [2,3,4,11,22,23,24] [.norm [2,3]] [Ym 28 4,Ym 29 4,Ya 30 64 1 3 29,Yl 31 3 30,Yo 32 (.bin .shl (.s 31) (.c (u64 8))),Ym 33 6,Yo 34 (.toInt .u32 (.s 33)),Yb 35 .or 32 34,Ya 36 64 1 3 28,YS 3 36 35]))) (Yu [2,3,4,11,22,23,24] [YB 37 .add 24 1,Ym 24 37]))))))) (.ghost (.keep [2,3,11]) (.exit 1))) (Yy [2,3,4,11]))) (YR [2,3,4,7,8,11] [.norm [2,3]] [Ym 38 4,YB 39 .sub 38 15,Ya 40 64 1 3 39,Yl 41 3 40,Ym 42 4,YB 43 .sub 42 2,Ya 44 64 1 3 43,Yl 45 3 44,Ym 7 41,Ym 8 45] (Yr [2,3,4,8,9,11] [Ym 46 7,Yo 47 (.call 13 [.s 46,.c (i64 (-7))] []),Ym 48 7,Yo 49 (.call 13 [.s 48,.c (i64 (-18))] []),Yb 50 .xor 47 49,Ym 51 7,Yo 52 (.bin .shr (.s 51) (.c (u64 3))),Yb 53 .xor 50 52,Ym 9 53] (Yr [2,3,4,9,10,11] [Ym 54 8,Yo 55 (.call 13 [.s 54,.c (i64 (-17))] []),Ym 56 8,Yo 57 (.call 13 [.s 56,.c (i64 (-19))] []),Yb 58 .xor 55 57,Ym 59 8,Yo 60 (.bin .shr (.s 59) (.c (u64 10))),Yb 61 .xor 58 60,Ym 10 61] (.region [2,3,11] [.norm [2,3]] [Ym 62 4,Ym 63 4,YB 64 .sub 63 16,Ya 65 64 1 3 64,Yl 66 3 65,Ym 67 9,Yb 68 .add 66 67,Ym 69 4,YB 70 .sub 69 7,Ya 71 64 1 3 70,Yl 72 3 71,Yb 73 .add 68 72,Ym 74 10,Yb 75 .add 73 74,Ya 76 64 1 3 62,YS 3 76 75]))))))) (Yu [2,3,11] [YB 77 .add 11 1,Ym 11 77]))))))) (YR [2] [.norm [2,3]] [YL 78 64 3 3,Ys 64 2 2 78] .ret)))}
def z2X:z6e:=
 {n:=4,wr:=[],res:=[.t 8],body:=Yr [] [Yo 8 (.mv false (.c (u32 0)))] (Yr [8] [Ym 9 0,Ym 10 1,Yo 11 (.un .neg (.s 10)),YK 12 13 9 11,Ym 13 0,Ym 14 2,Yo 15 (.un .neg (.s 14)),YK 16 13 13 15,Yb 17 .xor 12 16,Ym 18 0,Ym 19 3,Yo 20 (.un .neg (.s 19)),YK 21 13 18 20,Yb 22 .xor 17 21,Ym 8 22] .ret)}
def z2L:z6e:=
 {n:=1,wr:=[],res:=[.t 2],body:=Yr [] [Yo 2 (.mv true (.c (.sl (.own 1) none 0 [])))] (.scope (Yr [3,4] [Ym 8 0,Yo 9 (.toInt .u64 (.s 8)),Ym 3 9,Yo 4 (.mv false (.c (u8 0)))] (Yq (Yr [3,4,11] [Ym 10 0,YB 11 .lss 10 0] (Yd 11 (Yu [3,4] [Ym 12 3,Yo 13 (.un .xor (.s 12)),Ym 3 13,Yo 4 (.mv false (.c (u8 255)))]) (Yy [3,4]))) (Yr [3,4,5] [Yc 5 8] (Yq (Yy [3,4,5]) (Yq (.block 0 (.loop (Yq (Yr [3,4,5,15] [Ym 14 5,YB 15 .gtr 14 0] (Yd 15 (Yy [3,4,5]) (YY [3,4,5]))) (.block 1 (Yq (Yr [3,4,5,21] [Ym 16 3,Ym 17 5,YB 18 .sub 17 1,Yo 19 (.bin .mul (.c (i64 8)) (.s 18)),Yb 20 .shr 16 19,Yo 21 (.bin .gtr (.s 20) (.c (u64 0)))] (Yd 21 (YY [3,4,5]) (Yy [3,4,5]))) (Yu [3,4,5] [Ym 22 5,YB 23 .sub 22 1,Ym 5 23])))))) (Yr [3,4,5,6] [Ym 24 5,Yo 25 (.bin .add (.c (i64 128)) (.s 24)),Yo 26 (.toInt .u8 (.s 25)),Ym 27 4,Yb 28 .xor 26 27,Yo 29 (.buildSl 1 1 [u8 0] [(0,1,.s 28)]),YM 6 29] (Yq (Yr [3,4,6,7] [Ym 30 5,YB 31 .sub 30 1,Ym 7 31] (.block 2 (.loop (Yq (Yr [3,4,6,7,33] [Ym 32 7,YB 33 .geq 32 0] (Yd 33 (Yy [3,4,6,7]) (.ghost (.keep [6]) (.exit 2)))) (Yq (.block 3 (Yu [3,4,6,7] [YM 36 6,Ym 37 3,Ym 38 7,Yo 39 (.bin .mul (.c (i64 8)) (.s 38)),Yb 40 .shr 37 39,Yo 41 (.toInt .u8 (.s 40)),Ym 42 4,Yb 43 .xor 41 42,Yo 44 (.buildSl 1 1 [u8 0] [(0,1,.s 43)]),Yo 45 (.append 1 1 false (some false) none 36 (.s 44)),YM 6 45])) (Yu [3,4,6,7] [Ym 34 7,YB 35 .sub 34 1,Ym 7 35])))))) (Yr [2] [YM 46 6,YM 2 46] .ret)))))))))}
def z5l:z6e:=
 {n:=2,wr:=[],res:=[.t 4],body:=Yr [] [Yo 4 (.mv false (.c (u32 0)))] (Yr [5] [Ym 6 1,Yo 7 (.toInt .u64 (.s 6)),Yo 8 (.bin .and (.s 7) (.c (u64 31))),Ym 5 8] (Yr [4] [Ym 9 0,Ym 10 5,Yb 11 .shl 9 10,Ym 12 0,Ym 13 5,Yo 14 (.bin .sub (.c (u64 32)) (.s 13)),Yb 15 .shr 12 14,Yb 16 .or 11 15,Ym 4 16] .ret))}
end Go.Abs
end

section
namespace Go.Abs
def z6Ma (n:Nat):List UInt8:=if h:n=0 then [] else UInt8.ofNat n::z6Ma (n/256)
termination_by n
decreasing_by omega
theorem z50:z6Ma 0=[]:=by rw[z6Ma];simp
theorem z3ia {n:Nat} (h:n≠0):z6Ma n=UInt8.ofNat n::z6Ma (n/256):=by rw[z6Ma];simp[h]
def mag (n:Int):Nat:=(if n<0 then-1-n else n).toNat
def flp (n:Int) (c:UInt8):UInt8:=if n<0 then 255-c else c
def z4J (n:Int):List UInt8:=
 flp n (UInt8.ofNat (128+(z6Ma (mag n)).length))::(z6Ma (mag n)).reverse.map (flp n)
theorem z9Na:∀(i n:Nat) (h:i<(z6Ma n).length),(z6Ma n)[i]=UInt8.ofNat (n/256^i)
 |0,n,h=>by
  by_cases hn:n=0
  ·subst hn;simp[z50] at h
  ·simp[z3ia hn]
 |i+1,n,h=>by
  by_cases hn:n=0
  ·subst hn;simp[z50] at h
  ·simp only[z3ia hn,List.length_cons,Nat.add_lt_add_iff_right] at h⊢
   rw[List.getElem_cons_succ,z9Na i (n/256) h,Nat.div_div_eq_div_mul,Nat.pow_succ,Nat.mul_comm]
theorem z9sa:∀(k n:Nat),(z6Ma n).length≤k↔n<256^k
 |0,n=>by
  by_cases hn:n=0
  ·subst hn;simp[z50]
  ·simp[z3ia hn];omega
 |k+1,n=>by
  by_cases hn:n=0
  ·subst hn;simp[z50,Nat.pow_pos]
  ·rw[z3ia hn,List.length_cons,Nat.add_le_add_iff_right,z9sa k,Nat.div_lt_iff_lt_mul (by decide),Nat.pow_succ]
end Go.Abs
namespace Go.Abs
theorem z2jb {x:UInt64} {N m:Nat} (hx:x.toNat=N):(0<z5J x m)↔2^m≤N:=by
 rw[UInt64.lt_iff_toNat_lt]
 show 0<(x.toBitVec>>>m).toNat↔_
 rw[BitVec.toNat_ushiftRight,Nat.shiftRight_eq_div_pow]
 show 0<x.toNat/2^m↔_
 rw[hx,Nat.div_pos_iff]
 have:=Nat.two_pow_pos m
 omega
theorem z4yb (k:Nat):2^(8*k)=256^k:=by rw[Nat.pow_mul]
theorem z8Qb {x:UInt64} {N m:Nat} (hx:x.toNat=N):(z5J x m).toUInt8=UInt8.ofNat (N/2^m):=by
 apply UInt8.toNat_inj.1
 rw[UInt64.toNat_toUInt8,UInt8.toNat_ofNat']
 show(x.toBitVec>>>m).toNat% 256=_
 rw[BitVec.toNat_ushiftRight,Nat.shiftRight_eq_div_pow]
 show x.toNat/2^m% 256=_
 rw[hx]
end Go.Abs
end

section
namespace Go.Abs
def z1n (n:Int):Prop:= -9223372036854775808≤n∧n≤9223372036854775807
def z1Rb:z5a:=⟨fun ds=>∃n,z1n n∧ds=[i64 n],fun ds=> .sl (.own 1) (some false) (z4J (asI (nth ds 0))).length (bys (z4J (asI (nth ds 0))))⟩
set_option maxRecDepth 100000 in
theorem z5dd (c:UInt8):c^^^255=255-c:=by
 have h:∀k:Fin 256,UInt8.ofNat k.val^^^255=255-UInt8.ofNat k.val:=by decide+kernel
 have:=h ⟨c.toNat,c.toNat_lt⟩
 simpa using this
theorem z2ud (E:Env):∀ds,z1Rb.pre ds→ds.length=z2L.n∧awp E z2L.body (z0m z2L.res (z1Rb.post ds)) (z3b z2L.wr ds):=by
 rintro _ ⟨n,⟨hn0,hn1⟩,rfl⟩
 simp(disch:=first|omega|(simp;omega)) [z2L,z1Rb]
 refine z4a fun Q0 hQ0=> ?_
 have key:∀(x:UInt64) (f:UInt8),x.toNat=mag n→(∀c,c^^^f=flp n c)→Q0 .normal ⟨[(0,i64 n)],[(3,u64 x),(4,u8 f)],[]⟩:=by
  intro x f hx hf
  simp(disch:=first|omega|(simp;omega)) [hQ0]
  refine z4a fun Q1 hQ1=> ?_
  have key2:∀k:Nat,k≤8→(z6Ma (mag n)).length=k→Q1 (.exit 0) ⟨[(0,i64 n)],[(3,u64 x),(4,u8 f),(5,i64 k)],[]⟩:=by
   intro k hk8 hk
   simp(disch:=first|omega|(simp;omega)) [hQ1,z9a]
   refine z4a fun Q2 hQ2=> ?_
   have ehd:(UInt8.ofInt 128+UInt8.ofInt (k:Int))^^^f=flp n (UInt8.ofNat (128+k)):=by
    rw[←hf]
    congr 1
    apply UInt8.toNat_inj.1
    simp[z8Ma]
    omega
   rw[ehd]
   refine z4e (fun j:Nat=>⟨[(0,i64 n)],[(3,u64 x),(4,u8 f),(6,.sl (.own 1) (some false) (1+j) (bys (flp n (UInt8.ofNat (128+k))::((z6Ma (mag n)).reverse.take j).map (flp n)))),(7,i64 ((k:Int)-1-j))],[]⟩)
    (fun j=>k-j) (· ≤k) 0 (by simp;rfl) (by simp) fun j hj=> ?_
   refine z4a fun Q3 hQ3=> ?_
   simp(disch:=first|omega|(simp;omega)) [z9a]
   rw[z6d]
   refine⟨by simp,fun h=> ?_,fun h=> ?_⟩<;>simp at h
   ·simp(disch:=first|omega|(simp;omega)) [z9a]
    refine⟨by omega,by omega,?_⟩
    have hjk:j<k:=by omega
    have e8:(8*((k:Int)-1-(j:Int))).toNat=8*(k-1-j):=by omega
    have hel:(z5J x (8*(k-1-j))).toUInt8^^^f=flp n ((z6Ma (mag n))[k-1-j]'(by omega)):=by
     rw[hf,z9Na,z8Qb hx,z4yb]
    have htk:((z6Ma (mag n)).map (flp n)).reverse.take (j+1)=((z6Ma (mag n)).map (flp n)).reverse.take j++[flp n ((z6Ma (mag n))[k-1-j]'(by omega))]:=by
     rw[List.take_succ_eq_append_getElem (by simp;omega)]
     simp[hk]
    rw[hQ3,e8,hel]
    simp
    refine⟨j+1,by omega,by omega,⟨by omega,?_⟩,by omega⟩
    rw[htk]
    simp[bys]
   ·have e:j=k:=by omega
    subst e
    simp[hQ3,hQ2,z4J,hk,List.take_of_length_le]
    omega
  refine z4e (fun k:Nat=>⟨[(0,i64 n)],[(3,u64 x),(4,u8 f),(5,i64 k)],[]⟩) (fun k=>k) (fun k=>k≤8∧(z6Ma (mag n)).length≤k) 8 rfl ?_ fun k hk=> ?_
  ·refine⟨by decide,(z9sa 8 _).2 ?_⟩
   rw[←hx]
   exact x.toNat_lt
  ·obtain⟨hk8,hkl⟩:=hk
   refine z4a fun Q2 hQ2=> ?_
   simp(disch:=first|omega|(simp;omega)) [z9a]
   rw[z6d]
   refine⟨by simp,fun h=> ?_,fun h=> ?_⟩<;>simp at h
   ·obtain⟨j,rfl⟩:∃j,k=j+1:=⟨k-1,by omega⟩
    have e1:((8:Int)*(((j+1:Nat):Int)-1)).toNat=8*j:=by omega
    simp(disch:=first|omega|(simp;omega)) [z9a]
    refine⟨by omega,?_⟩
    rw[z6d]
    refine⟨by simp,fun h2=> ?_,fun h2=> ?_⟩<;>simp at h2
    ·simp[hQ2]
     refine key2 (j+1) hk8 ?_
     have h3:¬(z6Ma (mag n)).length≤j:=by
      rw[z9sa,←z4yb,Nat.not_lt,←z2jb hx,←e1]
      simpa using h2
     omega
    ·simp(disch:=first|omega|(simp;omega)) [hQ2,z9a]
     have h3:¬0<z5J x (8*j):=by rw[←e1];simpa using h2
     have h4:(z6Ma (mag n)).length≤j:=by rw[z9sa,←z4yb,←Nat.not_le,←z2jb hx];exact h3
     exact⟨j,by omega,⟨by omega,h4⟩,by omega⟩
   ·simp[hQ2]
    subst h
    exact key2 0 (by decide) (by omega)
 rw[z6d]
 have hge:∀m:Int,0≤m→m<18446744073709551616→(UInt64.ofInt m).toNat=m.toNat:=fun m h0 h1=>by rw[z1Ja,Int.emod_eq_of_lt h0 h1]
 refine⟨by simp,fun h=> ?_,fun h=> ?_⟩<;>simp at h
 ·simp
  refine key _ 255 ?_ ?_
  ·rw[mag,if_pos h,UInt64.toNat_not,z1Ja]
   have:UInt64.size=18446744073709551616:=rfl
   omega
  ·intro c
   rw[flp,if_pos h]
   exact z5dd c
 ·simp
  refine key _ 0 ?_ ?_
  ·rw[hge n h (by omega),mag,if_neg (by omega)]
  ·intro c
   rw[flp,if_neg (by omega)]
   simp
end Go.Abs
end

section
namespace Go.Abs
def z5N (s:List UInt8):List UInt8:=z4J s.length++s
def z7ia:z5a:=⟨fun ds=>∃s:List UInt8,s.length≤1099511000000∧ds=[st s],fun ds=> .sl (.own 1) (some false) (z5N (gS (nth ds 0))).length (bys (z5N (gS (nth ds 0))))⟩
theorem z7ac {n:Int} (h:z1n n):(z6Ma (mag n)).length≤8:=by
 rw[z9sa,mag]
 obtain⟨h1,h2⟩:=h
 split<;>omega
theorem z2s {n:Int} (h:z1n n):(z4J n).length≤9:=by
 have:=z7ac h
 simp[z4J];omega
theorem z5kc (E:Env) (h12:E.G 12=z1Rb):∀ds,z7ia.pre ds→ds.length=z9y.n∧awp E z9y.body (z0m z9y.res (z7ia.post ds)) (z3b z9y.wr ds):=by
 rintro _ ⟨s,hs,rfl⟩
 have hi:z1n (s.length:Int):=⟨by omega,by omega⟩
 have hl:=z2s hi
 simp(disch:=first|omega|(simp;omega)) [z9y,z7ia,h12,z1Rb,z5N,hi,z9s]
 omega
end Go.Abs
end

section
namespace Go.Abs
end Go.Abs
end

section
namespace Go.Abs
def fl (h c:UInt8):UInt8:=if h<128 then 255-c else c
def kOf (h:UInt8):Nat:=(fl h h).toNat-128
def z4fe (l:List UInt8):Nat:=l.foldl (fun a c=>256*a+c.toNat) 0
def z3Pa:List UInt8→Int×Nat×Nat
 |[]=>(0,0,5)
 |h::t=>
  if 8<kOf h then(0,0,6) else if t.length<kOf h then(0,0,5)
  else if 0<kOf h∧fl h (at8 t 0)=0 then(0,0,6)
  else if 2^63≤z4fe ((t.take (kOf h)).map (fl h)) then(0,0,6)
  else(if h<128 then-1-(z4fe ((t.take (kOf h)).map (fl h)):Int) else z4fe ((t.take (kOf h)).map (fl h)),kOf h+1,0)

end Go.Abs
end

section
namespace Go.Abs

def z71 (x:UInt32) (n:Nat):UInt32:=z1eb x n|||z8ua x (32-n)
def z8Db (x:UInt32) (k:Int):UInt32:=z8ua x (UInt64.ofInt k&&&31).toNat|||z1eb x (32-(UInt64.ofInt k&&&31)).toNat
theorem z5qd (x:UInt32):z8Db x (-7)=z71 x 7:=UInt32.or_comm _ _
theorem z8Xc (x:UInt32):z8Db x (-18)=z71 x 18:=UInt32.or_comm _ _
theorem z7Tc (x:UInt32):z8Db x (-17)=z71 x 17:=UInt32.or_comm _ _
theorem z6Mc (x:UInt32):z8Db x (-19)=z71 x 19:=UInt32.or_comm _ _
theorem z5rd (x:UInt32):z8Db x (-6)=z71 x 6:=UInt32.or_comm _ _
theorem z9Xc (x:UInt32):z8Db x (-11)=z71 x 11:=UInt32.or_comm _ _
theorem z1ad (x:UInt32):z8Db x (-25)=z71 x 25:=UInt32.or_comm _ _
theorem z4od (x:UInt32):z8Db x (-2)=z71 x 2:=UInt32.or_comm _ _
theorem z5cd (x:UInt32):z8Db x (-13)=z71 x 13:=UInt32.or_comm _ _
theorem z3dd (x:UInt32):z8Db x (-22)=z71 x 22:=UInt32.or_comm _ _

structure H8 where
 a:UInt32
 b:UInt32
 c:UInt32
 d:UInt32
 e:UInt32
 f:UInt32
 g:UInt32
 h:UInt32
def H8.l (s:H8):List UInt32:=[s.a,s.b,s.c,s.d,s.e,s.f,s.g,s.h]
def H8.of (l:List UInt32):H8:=⟨z6p l 0,z6p l 1,z6p l 2,z6p l 3,z6p l 4,z6p l 5,z6p l 6,z6p l 7⟩
@[simp] theorem H8.of_l (s:H8):H8.of s.l=s:=rfl
@[simp] theorem H8.len (s:H8):s.l.length=8:=rfl
def iv:H8:=⟨1779033703,3144134277,1013904242,2773480762,1359893119,2600822924,528734635,1541459225⟩
def kc:List UInt32:=[1116352408,1899447441,3049323471,3921009573,961987163,1508970993,2453635748,2870763221,3624381080,310598401,607225278,1426881987,1925078388,2162078206,2614888103,3248222580,3835390401,4022224774,264347078,604807628,770255983,1249150122,1555081692,1996064986,2554220882,2821834349,2952996808,3210313671,3336571891,3584528711,113926993,338241895,666307205,773529912,1294757372,1396182291,1695183700,1986661051,2177026350,2456956037,2730485921,2820302411,3259730800,3345764771,3516065817,3600352804,4094571909,275423344,430227734,506948616,659060556,883997877,958139571,1322822218,1537002063,1747873779,1955562222,2024104815,2227730452,2361852424,2428436474,2756734187,3204031479,3329325298]

def z5ic:z5a:=⟨fun ds=>∃x k,ds=[u32 x,i64 k],fun ds=>u32 (z8Db (z2Ic (nth ds 0)) (asI (nth ds 1)))⟩
def z8Jc:z5a:=⟨fun ds=>∃x i j k,ds=[u32 x,i64 i,i64 j,i64 k],fun ds=>u32 (z8Db (z2Ic (nth ds 0)) (W (-asI (nth ds 1)))^^^z8Db (z2Ic (nth ds 0)) (W (-asI (nth ds 2)))^^^z8Db (z2Ic (nth ds 0)) (W (-asI (nth ds 3))))⟩

def ldw (b:List UInt8) (t:Nat):Nat→UInt32
 |0=>0
 |j+1=>z8ua (ldw b t j) 8|||(at8 b (4*t+j)).toUInt32
def sg0 (p:UInt32):UInt32:=z71 p 7^^^z71 p 18^^^z1eb p 3
def sg1 (q:UInt32):UInt32:=z71 q 17^^^z71 q 19^^^z1eb q 10
def z83a (b:List UInt8) (t:Nat) (w:List UInt32):UInt32:=
 if t<16 then ldw b t 4 else z6p w (t-16)+sg0 (z6p w (t-15))+z6p w (t-7)+sg1 (z6p w (t-2))
def z9j (b:List UInt8):Nat→List UInt32
 |0=>[]
 |t+1=>z9j b t++[z83a b t (z9j b t)]
theorem z4q (b:List UInt8):∀t,(z9j b t).length=t
 |0=>rfl
 |t+1=>by simp[z9j,z4q b t]
def z40:z5a:=⟨fun ds=>∃nl b,b.length=64∧ds=[.sl .plain nl 64 (bys b)],fun ds=> .agg (z6o (z9j (gBs (gCs (nth ds 0))) 64))⟩

def rnd (k w:UInt32) (s:H8):H8:=
 let x:=s.h+(z71 s.e 6^^^z71 s.e 11^^^z71 s.e 25)+((s.e&&&s.f)^^^(~~~s.e&&&s.g))+k+w
 let y:=(z71 s.a 2^^^z71 s.a 13^^^z71 s.a 22)+((s.a&&&s.b)^^^(s.a&&&s.c)^^^(s.b&&&s.c))
 ⟨x+y,s.a,s.b,s.c,s.d+x,s.e,s.f,s.g⟩
def z92a (w:List UInt32) (s:H8):Nat→H8
 |0=>s
 |t+1=>rnd (z6p kc t) (z6p w t) (z92a w s t)
def H8.add (s v:H8):H8:=⟨s.a+v.a,s.b+v.b,s.c+v.c,s.d+v.d,s.e+v.e,s.f+v.f,s.g+v.g,s.h+v.h⟩
def z8pb (s:H8) (b:List UInt8):H8:=s.add (z92a (z9j b 64) s 64)
def z4Na:z5a:=⟨fun ds=>∃(s:H8) (nl:Option Bool) (b:List UInt8),b.length=64∧ds=[.agg (z6o s.l),.sl .plain nl 64 (bys b)],fun ds=> .agg (z6o (z8pb (H8.of (gWs (gCs (nth ds 0)))) (gBs (gCs (nth ds 1)))).l)⟩

theorem z7sa {t:Nat} (h:t<64):z6i (64-t)=0::z6i (63-t):=by
 rw[show 64-t=(63-t)+1 by omega];rfl
theorem z60a {α:Type} {a c:List α} {i:Nat} {x y:α} (h:i=a.length):(a++x::c).set i y=a++y::c:=by
 subst h;simp
end Go.Abs
namespace Go.Abs
structure z4w where
 h:H8
 b:List UInt8
 n:UInt64
def scs (s:z4w):List z2a:=z6o s.h.l++(bys s.b++[u64 s.n])
def z4w.v (s:z4w):z2a:= .agg (scs s)
def z4w.of (l:List z2a):z4w:=⟨H8.of (gWs (l.take 8)),gBs ((l.drop 8).take 64),z5ae (nth l 72)⟩
section cells
variable {s : z4w}
theorem z5L (h:s.b.length=64):(scs s).length=73:=by simp[scs,h]
theorem z0vc (h:s.b.length=64):hdA ((scs s).drop 72)=u64 s.n:=by
 rw[z4nc]
 simp[scs,List.getD,List.getElem?_append,h]
theorem z12c (s:z4w):(scs s).take 8=z6o s.h.l:=by simp[scs]
theorem z4Yc (h:s.b.length=64):((scs s).drop 8).take 64=bys s.b:=by
 rw[scs,List.drop_left' (by simp),List.take_left' (by simp[h])]
theorem z49b (h:s.b.length=64):(scs s).take 73=scs s:=List.take_of_length_le (by rw[z5L h];decide)
@[simp] theorem z7jc (s:z4w):(∀c∈scs s,z0d c)↔True:=by simp[scs,or_imp,forall_and]
@[simp] theorem z8Wc (s:z4w):(∀c∈scs s,z5e c=false)↔True:=by simp[scs,or_imp,forall_and]
@[simp] theorem z3mb (s:z4w):z3f (scs s)=true:=by simp[scs]
@[simp] theorem z1sc (s:z4w):(∀c∈scs s,z8d c=true)↔True:=iff_true_intro ((z7g _).1 (z3mb s))
@[simp] theorem z5Vc (s:z4w):z6b (scs s)=true:=by simp[scs]
@[simp] theorem z3vc (s:z4w):z9f (scs s)=[]:=by simp[scs]
theorem z8jb {x:H8}:splice (scs s) 0 (z6o x.l)=scs {s with h:=x}:=by
 rw[scs,z8ya (by simp),z8a (by simp)];rfl
theorem z6fc {n:UInt64} (h:s.b.length=64):splice (scs s) 72 [u64 n]=scs {s with n:=n}:=by
 rw[scs,z5oa (by simp),z5oa (by simp[h])]
 simp[h,scs]
theorem z7Xb {i:Nat} {xs:List UInt8} (h:s.b.length=64) (hi:i+xs.length≤64):splice (scs s) (8+i) (bys xs)=scs {s with b:=s.b.take i++xs++s.b.drop (i+xs.length)}:=by
 rw[scs,z5oa (by simp),z8ya (by simp[h];omega)]
 simp only[H8.len,z2vb,Nat.add_sub_cancel_left,scs]
 rw[splice,z4Qb,z9s,z9s,z8Mb,z4Fb]
theorem z1fb {l:List z2a} (h:s.b.length=64) (hl:l.length=73):splice l 0 (scs s)=scs s:=z8a (by rw[hl,z5L h])
end cells
theorem z8Ib:(z6o (z6i 8)++(bys (z9c 64)++[u64 0])).length=73:=by simp
def z8gd (s:z4w) (x:UInt8):z4w:=
 let b':=s.b.set (s.n.toNat% 64) x
 ⟨if s.n.toNat% 64=63 then z8pb s.h b' else s.h,b',s.n+1⟩
def z4w.add (s:z4w) (m:List UInt8):z4w:=m.foldl z8gd s
theorem z1nc (s:z4w) (x:UInt8):(z8gd s x).b.length=s.b.length:=by simp[z8gd]
theorem z7Ma (m:List UInt8):∀s:z4w,(s.add m).b.length=s.b.length:=by
 induction m with
 |nil=>intro s;rfl
 |cons x m ih=>intro s;rw[z4w.add,List.foldl_cons];exact(ih _).trans (z1nc s x)
theorem z6aa (s:z4w) (m k:List UInt8):s.add (m++k)=(s.add m).add k:=by simp[z4w.add]
theorem z4w.of_scs (s:z4w) (hb:s.b.length=64):z4w.of (scs s)=s:=by
 have h3:nth (scs s) 72=u64 s.n:=by
  rw[nth,←z4nc,z0vc hb]
 rw[z4w.of,z12c,z4Yc hb,h3]
 simp
def z4w.init:z4w:=⟨iv,z9c 64,0⟩
def z1ra:z5a:=⟨fun ds=>ds=[],fun _=>z4w.init.v⟩
def z6Ob:z5a:=⟨fun ds=>∃(s:z4w) (m:List UInt8),s.b.length=64∧ds=[s.v,st m],fun ds=>((z4w.of (gCs (nth ds 0))).add (gS (nth ds 1))).v⟩

theorem z9Za (s:z4w) (hb:s.b.length=64):∀(j:Nat) (m:List UInt8),m.length=j→s.n.toNat% 64+j≤64→
  s.add m=⟨if s.n.toNat% 64+j=64 then z8pb s.h (s.b.take (s.n.toNat% 64)++(m++s.b.drop (s.n.toNat% 64+j))) else s.h,
   s.b.take (s.n.toNat% 64)++(m++s.b.drop (s.n.toNat% 64+j)),s.n+UInt64.ofNat j⟩
 |0,m,hm,h=>by
  have hm':=List.length_eq_zero_iff.1 hm
  subst hm'
  have h1:s.n.toNat% 64<64:=Nat.mod_lt _ (by decide)
  rw[if_neg (by omega)]
  simp[z4w.add]
 |j+1,m,hm,h=>by
  have hne:m≠[]:=fun e=>by rw[e] at hm;simp at hm
  obtain⟨k,x,rfl⟩:∃k x,m=k++[x]:=⟨m.dropLast,m.getLast hne,(List.dropLast_concat_getLast hne).symm⟩
  have hk:k.length=j:=by simp at hm;exact hm
  rw[z6aa,z9Za s hb j k hk (by omega),if_neg (by omega)]
  have hn:(s.n+UInt64.ofNat j).toNat% 64=s.n.toNat% 64+j:=by
   rw[UInt64.toNat_add,UInt64.toNat_ofNat']
   omega
  have hset:(s.b.take (s.n.toNat% 64)++(k++s.b.drop (s.n.toNat% 64+j))).set (s.n.toNat% 64+j) x=s.b.take (s.n.toNat% 64)++((k++[x])++s.b.drop (s.n.toNat% 64+(j+1))):=by
   rw[List.drop_eq_getElem_cons (show s.n.toNat% 64+j<s.b.length by omega),←List.append_assoc,z60a (by simp[hk];omega)]
   simp[Nat.add_assoc]
  simp only[z4w.add,List.foldl_cons,List.foldl_nil,z8gd,hn,hset]
  congr 1
  ·by_cases h63:s.n.toNat% 64+j=63
   ·rw[if_pos h63,if_pos (by omega)]
   ·rw[if_neg h63,if_neg (by omega)]
  ·rw[UInt64.add_assoc]
   congr 1
   apply UInt64.toNat_inj.1
   simp
end Go.Abs
end

section
namespace Go.Abs
def z74a (n:Nat):Nat:=(119-n% 64)% 64
def be8 (n:UInt64):Nat→List UInt8
 |0=>[]
 |i+1=>be8 n i++[(z5J n (56-8*i)).toUInt8]
theorem z7Ga (n:UInt64):∀i,(be8 n i).length=i
 |0=>rfl
 |i+1=>by simp[be8,z7Ga n i]
def z1yb (n:UInt64):List UInt8:=(128::z9c (z74a n.toNat))++be8 (8*n) 8
def z1Sb (h:H8):Nat→List UInt8
 |0=>[]
 |i+1=>z1Sb h i++[(z1eb (z6p h.l (i/4)) (24-8*(i% 4))).toUInt8]
theorem z0Fa (h:H8):∀i,(z1Sb h i).length=i
 |0=>rfl
 |i+1=>by simp[z1Sb,z0Fa h i]
def z4w.sum (s:z4w):List UInt8:=z1Sb (s.add (z1yb s.n)).h 32
def z08b:z5a:=⟨fun ds=>∃s:z4w,s.b.length=64∧s.n.toNat<1099511627776∧ds=[s.v],fun ds=> .agg (bys (z4w.of (gCs (nth ds 0))).sum)⟩
theorem z2Ad {s:z4w} {j:Nat} (h:j<8):hdA ((scs s).drop j)=u32 (z6p s.h.l j):=by
 rw[scs,List.drop_append_of_le_length (by simp;omega),z8Va,hdA]
 rw[show(z6o (s.h.l.drop j)++(bys s.b++[u64 s.n])).headD .undef=hdA (z6o (s.h.l.drop j)) by
  rw[List.drop_eq_getElem_cons (show j<s.h.l.length from h)];rfl]
 exact z51 h
theorem z7wb (n:Nat):z74a n<64:=Nat.mod_lt _ (by decide)
theorem z7vb (n:Nat):(n+(z74a n+1))% 64=56:=by unfold z74a;omega
theorem z91a (k:Nat):z9c k++[0]=z9c (k+1):=by
 simp[z9c,List.replicate_succ']
theorem z5ab {t n:Nat} (h:t<n):z9c (n-t)=0::z9c (n-1-t):=by
 rw[show n-t=(n-1-t)+1 by omega];rfl
end Go.Abs
namespace Go.Abs
theorem z1sd (m:List UInt8):∀s:z4w,(s.add m).n=s.n+UInt64.ofNat m.length:=by
 induction m with
 |nil=>intro s;simp[z4w.add]
 |cons x m ih=>
  intro s
  have:s.add (x::m)=(z8gd s x).add m:=rfl
  rw[this,ih]
  simp only[z8gd,List.length_cons]
  rw[UInt64.add_assoc]
  congr 1
  apply UInt64.toNat_inj.1
  simp
  omega
theorem z6Ya (m:List UInt8) (s:z4w) (h:s.n.toNat+m.length<18446744073709551616):(s.add m).n.toNat=s.n.toNat+m.length:=by
 rw[z1sd,UInt64.toNat_add,UInt64.toNat_ofNat']
 omega
def sha (l:List UInt8):List UInt8:=(z4w.init.add l).sum
theorem z5Ta (l:List UInt8):(sha l).length=32:=z0Fa _ 32
theorem z1Qa:z4w.init.b.length=64:=by simp[z4w.init]
def z4eb:z5a:=⟨fun ds=>∃(nl:Option Bool) (l:List UInt8),l.length<1099511627776∧ds=[.sl .plain nl l.length (bys l)],fun ds=> .agg (bys (sha (gBs (gCs (nth ds 0)))))⟩
end Go.Abs
end

section
namespace Go.Abs
def z22d (k:List UInt8) (w:UInt8):List UInt8:=(k.take 64++z9c (64-k.length)).map (· ^^^w)
theorem z9zc (k:List UInt8) (w:UInt8):(z22d k w).length=64:=by simp[z22d];omega
def z4zd (key:List UInt8):List UInt8:=if 64<key.length then sha key else key
def mac (key text:List UInt8):List UInt8:=sha (z22d (z4zd key) 92++sha (z22d (z4zd key) 54++text))
def sts (l:List (List UInt8)):List z2a:=l.map st
@[simp] theorem z9hd (l:List (List UInt8)):(sts l).length=l.length:=by simp[sts]
@[simp] theorem z67d:sts []=[]:=rfl
theorem z4qc (x:List UInt8) (l:List (List UInt8)):sts (x::l)=st x::sts l:=rfl
@[simp] theorem z0Wd (l:List (List UInt8)) (n:Nat):(sts l).take n=sts (l.take n):=by simp[sts]
@[simp] theorem z1Wd (l:List (List UInt8)) (n:Nat):(sts l).drop n=sts (l.drop n):=by simp[sts]
def atS (l:List (List UInt8)) (i:Nat):List UInt8:=l.getD i []
theorem z2Ec {l:List (List UInt8)} {n:Nat} (h:n<l.length):hdA (sts (l.drop n))=st (atS l n):=by
 rw[List.drop_eq_getElem_cons h,z4qc]
 simp[atS,List.getD,List.getElem?_eq_getElem h]
def gSs (l:List z2a):List (List UInt8):=l.map gS
@[simp] theorem z2Yb (l:List (List UInt8)):gSs (sts l)=l:=by simp[gSs,sts,Function.comp_def]
@[simp] theorem z94d:gSs []=[]:=rfl
theorem z2Va {P:z2a→Prop} {l:List (List UInt8)} (h:∀x,P (st x)):∀c∈sts l,P c:=fun c hc=>by
 simp only[sts,List.mem_map] at hc
 obtain⟨x,_,rfl⟩:=hc
 exact h x
@[simp] theorem z7Sd (l:List (List UInt8)):(∀c∈sts l,z8d c=true)↔True:=iff_true_intro (z2Va (by simp))
@[simp] theorem z0rd (l:List (List UInt8)):z3f (sts l)=true:=z3Ca (z2Va (by simp))
@[simp] theorem z9Xd (l:List (List UInt8)):(∀c∈sts l,z0d c)↔True:=iff_true_intro (z2Va (by simp))
@[simp] theorem z9be (l:List (List UInt8)):(∀c∈sts l,z5e c=false)↔True:=iff_true_intro (z2Va (by simp))
@[simp] theorem z3jc (l:List (List UInt8)):(∀c∈sts l,z8d c=true∧z0d c)↔True:=iff_true_intro (z2Va (by simp))
@[simp] theorem z5Ed (l:List (List UInt8)):z9f (sts l)=[]:=by induction l<;>simp_all [sts]
def z7l (tag:Int) (parts:List (List UInt8)):List UInt8:=UInt8.ofInt tag::parts.flatMap z5N
def z4j (tag:Int) (parts:List (List UInt8)):List UInt8:=(sha (z7l tag parts)).take 16
def z8ja (parts:List (List UInt8)):Nat:=(parts.map fun p=>p.length+9).sum
theorem z9Fb {s:List UInt8} (h:s.length<1099511627776):(z5N s).length≤s.length+9:=by
 have:=z2s (n:=s.length) ⟨by omega,by omega⟩
 simp[z5N];omega
def ofC:z5a:=⟨fun ds=>∃(tag:Int) (nl:Option Bool) (parts:List (List UInt8)),z8ja parts<1099511000000∧ds=[i64 tag,.sl .plain nl parts.length (sts parts)],fun ds=> .agg (bys (z4j (asI (nth ds 0)) (gSs (gCs (nth ds 1)))))⟩
theorem z1h (tag:Int) (parts:List (List UInt8)):(z4j tag parts).length=16:=by simp[z4j,z5Ta]

def svc (l:List UInt8):List z2a:=scs (z4w.init.add l)
theorem z7Tb (l:List UInt8):(z4w.init.add l).b.length=64:=by rw[z7Ma,z1Qa]
@[simp] theorem z0fc (l:List UInt8):(svc l).length=73:=z5L (z7Tb l)
@[simp] theorem z9Vd (l:List UInt8):(∀c∈svc l,z0d c)↔True:=z7jc _
@[simp] theorem z2ce (l:List UInt8):(∀c∈svc l,z5e c=false)↔True:=z8Wc _
@[simp] theorem z5zd (l:List UInt8):z3f (svc l)=true:=z3mb _
@[simp] theorem z6Yd (l:List UInt8):(∀c∈svc l,z8d c=true)↔True:=z1sc _
@[simp] theorem z17d (l:List UInt8):z6b (svc l)=true:=z5Vc _
@[simp] theorem z4Vd (l:List UInt8):z9f (svc l)=[]:=z3vc _
@[simp] theorem z4Td (l:List UInt8):(svc l).take 73=svc l:=List.take_of_length_le (by rw[z0fc];decide)
@[simp] theorem z5id {zs:List z2a} (l:List UInt8) (h:zs.length=73):splice zs 0 (svc l)=svc l:=z8a (by rw[z0fc,h])
@[simp] theorem z4nd:(z6o (z6i 8)++(bys (z9c 64)++[u64 0])).length=73:=z8Ib
@[simp] theorem z8rd:z1ra.pre []=True:=by simp[z1ra]
@[simp] theorem z8md:z1ra.post []= .agg (svc []):=rfl
@[simp] theorem z6ee (l m:List UInt8):z6Ob.pre [.agg (svc l),st m]=True:=eq_true ⟨_,m,z7Tb l,rfl⟩
@[simp] theorem z80d (l m:List UInt8):z6Ob.post [.agg (svc l),st m]= .agg (svc (l++m)):=by
 simp[z6Ob,svc,z4w.v,z4w.of_scs _ (z7Tb l),z6aa]
theorem z9qc {l:List UInt8} {nl:Option Bool} {n:Nat} (hn:n=l.length) (h:l.length<1099511627776):z4eb.pre [.sl .plain nl n (bys l)]=True:=eq_true ⟨nl,l,h,by rw[hn]⟩
@[simp] theorem z1Hd (l:List UInt8) (nl:Option Bool) (n:Nat):z4eb.post [.sl .plain nl n (bys l)]= .agg (bys (sha l)):=by simp[z4eb]
theorem z0Vc {l:List UInt8} (h:l.length<1099511627776):z08b.pre [.agg (svc l)]=True:=
 eq_true ⟨_,z7Tb l,by rw[z6Ya _ _ (by show 0+l.length<_;omega)];show 0+l.length<_;omega,rfl⟩
@[simp] theorem z60d (l:List UInt8):z08b.post [.agg (svc l)]= .agg (bys (sha l)):=by simp[z08b,svc,z4w.of_scs _ (z7Tb l),sha]
theorem z6Aa {s:List UInt8} (h:s.length≤1099511000000):z7ia.pre [st s]=True:=eq_true ⟨s,h,rfl⟩
@[simp] theorem z6gd (s:List UInt8):z7ia.post [st s]= .sl (.own 1) (some false) (z5N s).length (bys (z5N s)):=by simp[z7ia]
theorem z4td {tag:Int} {nl:Option Bool} {n:Nat} {l:List (List UInt8)} (hn:n=l.length) (h:z8ja l<1099511000000):ofC.pre [i64 tag,.sl .plain nl n (sts l)]=True:=eq_true ⟨tag,nl,l,h,by rw[hn]⟩
@[simp] theorem z3Wc (tag:Int) (nl:Option Bool) (n:Nat) (l:List (List UInt8)):ofC.post [i64 tag,.sl .plain nl n (sts l)]= .agg (bys (z4j tag l)):=by simp[ofC]
attribute [simp] z9zc z5Ta z1h
theorem z4l {zs:List z2a} {l:List UInt8} (h:l.length=zs.length):splice zs 0 (bys l)=bys l:=z8a (by simpa using h)
theorem z0C:∀{l:List (List UInt8)},z8ja l<1099511000000→(l.flatMap z5N).length≤z8ja l
 |[],_=>by simp
 |x::l,h=>by
  simp only[z8ja,List.map_cons,List.sum_cons] at h
  have h1:=z9Fb (s:=x) (by omega)
  have h2:=z0C (l:=l) (by simp only[z8ja];omega)
  simp only[z8ja] at h2
  simp only[List.flatMap_cons,List.length_append,z8ja,List.map_cons,List.sum_cons]
  omega
theorem z6Sa {l:List (List UInt8)} {i:Nat} (hi:i<l.length):(atS l i).length+9≤z8ja l:=by
 induction l generalizing i with
 |nil=>simp at hi
 |cons x l ih=>
  simp only[z8ja,List.map_cons,List.sum_cons]
  cases i with
  |zero=>simp[atS]
  |succ i=>
   have:=ih (i:=i) (by simpa using hi)
   simp only[z8ja] at this
   simp only[atS,List.getD_cons_succ] at this⊢
   omega
theorem z7s {α β:Type} (l:List α) (f:α→List β) (d:α) {i:Nat} (hi:i<l.length):(l.take (i+1)).flatMap f=(l.take i).flatMap f++f (l.getD i d):=by
 rw[List.take_succ_eq_append_getElem hi,List.getD,List.getElem?_eq_getElem hi]
 simp only[List.flatMap_append,List.flatMap_cons,List.flatMap_nil,List.append_nil,Option.getD_some]
theorem z8ud {l:List UInt8} {i:Nat} (h:i<l.length):l.take (i+1)=l.take i++[at8 l i]:=by
 rw[List.take_succ_eq_append_getElem h,at8,List.getD,List.getElem?_eq_getElem h];rfl
theorem z1Aa:∀l:List (List UInt8),l.length≤z8ja l
 |[]=>by simp
 |x::l=>by
  have:=z1Aa l
  simp only[z8ja,List.map_cons,List.sum_cons,List.length_cons] at this⊢
  omega
theorem z1nb (l:List (List UInt8)) (i:Nat):z8ja (l.take i)≤z8ja l:=by
 have:z8ja l=z8ja (l.take i)+z8ja (l.drop i):=by
  simp only[z8ja]
  rw[←List.sum_append,←List.map_append,List.take_append_drop]
 omega
end Go.Abs
end

section
namespace Go.Abs
def z3fd (b:List UInt8) (s:Nat):Nat:=if(z3Pa b).2.2≠0 then(z3Pa b).2.2 else if(z3Pa b).1<0 then 6 else if(b.length-(z3Pa b).2.1)/s<(z3Pa b).1.toNat then 5 else 0
def z4de (b:List UInt8):List UInt8×Nat×Nat:=if z3fd b 1=0 then((b.drop (z3Pa b).2.1).take (z3Pa b).1.toNat,(z3Pa b).2.1+(z3Pa b).1.toNat,0) else([],0,z3fd b 1)
def z0qd {α:Type} (f:List UInt8→α×Nat×Nat):Nat→List UInt8→Nat→List α×Nat×Nat
 |0,_,at'=>([],at',0)
 |n+1,b,at'=>if(f (b.drop at')).2.2≠0 then([],0,(f (b.drop at')).2.2)
  else if(z0qd f n b (at'+(f (b.drop at')).2.1)).2.2≠0 then([],0,(z0qd f n b (at'+(f (b.drop at')).2.1)).2.2)
  else((f (b.drop at')).1::(z0qd f n b (at'+(f (b.drop at')).2.1)).1,(z0qd f n b (at'+(f (b.drop at')).2.1)).2.1,0)
def z0ed {α:Type} (f:List UInt8→α×Nat×Nat) (s:Nat) (b:List UInt8):List α×Nat×Nat:=if z3fd b s=0 then z0qd f (z3Pa b).1.toNat b (z3Pa b).2.1 else([],0,z3fd b s)

/-! ### Lists of whole numbers as cells -/
def z9p (l:List Int):List z2a:=l.map i64
def atI (l:List Int) (i:Nat):Int:=l.getD i 0
def gIs (l:List z2a):List Int:=l.map asI
@[simp] theorem z7Uc (l:List Int):(z9p l).length=l.length:=by simp[z9p]
@[simp] theorem z9Qd:z9p []=[]:=rfl
theorem z54b (x:Int) (l:List Int):z9p (x::l)=i64 x::z9p l:=rfl
@[simp] theorem z5Cd (l:List Int) (n:Nat):(z9p l).take n=z9p (l.take n):=by simp[z9p]
@[simp] theorem z8yd (l:List Int) (n:Nat):(z9p l).drop n=z9p (l.drop n):=by simp[z9p]
@[simp] theorem z7Wd (l:List Int):gIs (z9p l)=l:=by simp[gIs,z9p,Function.comp_def]
theorem z5Ia {l:List Int} {n:Nat} (h:n<l.length):hdA (z9p (l.drop n))=i64 (atI l n):=by
 rw[List.drop_eq_getElem_cons h,z54b]
 simp[atI,List.getD,List.getElem?_eq_getElem h]
theorem z6Ba {P:z2a→Prop} {l:List Int} (h:∀x,P (i64 x)):∀c∈z9p l,P c:=fun c hc=>by
 simp only[z9p,List.mem_map] at hc
 obtain⟨x,_,rfl⟩:=hc
 exact h x
@[simp] theorem z8Fd (l:List Int):(∀c∈z9p l,z8d c=true)↔True:=iff_true_intro (z6Ba (by simp))
@[simp] theorem z4md (l:List Int):z3f (z9p l)=true:=z3Ca (z6Ba (by simp))
@[simp] theorem z9Fd (l:List Int):(∀c∈z9p l,z0d c)↔True:=iff_true_intro (z6Ba (by simp))
@[simp] theorem z5Vd (l:List Int):(∀c∈z9p l,z5e c=false)↔True:=iff_true_intro (z6Ba (by simp))
@[simp] theorem z6ic (l:List Int):(∀c∈z9p l,z8d c=true∧z0d c)↔True:=iff_true_intro (z6Ba (by simp))
@[simp] theorem z9gd (l:List Int):z9f (z9p l)=[]:=by induction l<;>simp_all [z9p]

def pre {α:Type} (out:List α) (r:List α×Nat×Nat):List α×Nat×Nat:=if r.2.2≠0 then([],0,r.2.2) else(out++r.1,r.2.1,0)
@[simp] theorem z1Jc (l:List (List UInt8)):z6b (sts l)=true:=by induction l<;>simp_all [sts,z6b,z5b,st]
def z5Id (b:List UInt8):List UInt8×Nat×Nat:=if z3fd b 16=0 then((b.drop (z3Pa b).2.1).take ((z3Pa b).1.toNat*16),(z3Pa b).2.1+(z3Pa b).1.toNat*16,0) else([],0,z3fd b 16)
end Go.Abs
end

section
namespace Go.Abs
def z9P (b:List UInt8):List UInt8:=b++z1yb (UInt64.ofNat b.length)
theorem z2gc (n:UInt64):(z1yb n).length=z74a n.toNat+9:=by simp[z1yb,z7Ga]
theorem z4Ka {b:List UInt8} (h:b.length<1099511627776):(z9P b).length% 64=0∧b.length<(z9P b).length∧(z9P b).length≤b.length+128:=by
 have hn:(UInt64.ofNat b.length).toNat=b.length:=by rw[UInt64.toNat_ofNat'];omega
 have h1:=z7vb b.length
 have h2:=z7wb b.length
 simp only[z9P,List.length_append,z2gc,hn]
 omega
def blk (m:List UInt8) (s:H8):Nat→H8
 |0=>s
 |k+1=>z8pb (blk m s k) ((m.drop (64*k)).take 64)
theorem z58a (m:List UInt8):∀k,64*k≤m.length→64*k<1099511627776→(z4w.init.add (m.take (64*k))).h=blk m iv k
 |0,_,_=>by simp[z4w.add,blk,z4w.init]
 |k+1,h,h'=>by
  have ih:=z58a m k (by omega) (by omega)
  have hb:=z7Tb (m.take (64*k))
  have hn:(z4w.init.add (m.take (64*k))).n.toNat=64*k:=by
   have e:z4w.init.n.toNat=0:=rfl
   rw[z6Ya _ _ (by rw[e];simp;omega),e,List.length_take]
   omega
  have h64:(z4w.init.add (m.take (64*k))).n.toNat% 64=0:=by rw[hn];omega
  rw[show 64*(k+1)=64*k+64 by omega,List.take_add,z6aa,z9Za _ hb 64 _ (by simp;omega) (by omega)]
  simp only[h64,Nat.zero_add,if_true,List.take_zero,List.nil_append,ih,blk]
  have hd:List.drop 64 (z4w.init.add (m.take (64*k))).b=[]:=List.drop_of_length_le (by omega)
  rw[hd,List.append_nil]
theorem z67b {b:List UInt8} (h:b.length<1099511000000):sha b=z1Sb (blk (z9P b) iv ((z9P b).length/64)) 32:=by
 obtain⟨h1,h2,h3⟩:=z4Ka (b:=b) (by omega)
 have e:=z58a (z9P b) ((z9P b).length/64) (by omega) (by omega)
 rw[show 64*((z9P b).length/64)=(z9P b).length by omega,List.take_length] at e
 have hn:(z4w.init.add b).n=UInt64.ofNat b.length:=by rw[z1sd];exact UInt64.zero_add _
 rw[←e,sha,z4w.sum,z9P,z6aa,hn]
def few (l:List (List UInt8)):Bool:=decide (l.length≤12)&&l.all fun s=>decide (s.length≤400)
def z4fb:z5a:=⟨fun ds=>∃x n,0≤n∧n≤32∧ds=[u32 x,i64 n],fun ds=>u32 (z71 (z2Ic (nth ds 0)) (asI (nth ds 1)).toNat)⟩
def z6ra:z5a:=⟨fun ds=>∃(nl:Option Bool) (b:List UInt8),b.length<1099511000000∧ds=[.sl .plain nl b.length (bys b)],fun ds=> .sl (.own 1) (some false) (z9P (gBs (gCs (nth ds 0)))).length (bys (z9P (gBs (gCs (nth ds 0)))))⟩
def z0pa:z5a:=⟨fun ds=>∃h:List UInt8,h.length=16∧ds=[.agg (bys h)],fun ds=>st (gBs (gCs (nth ds 0)))⟩
def z6jb:z5a:=⟨fun ds=>∃(nl:Option Bool) (l:List UInt8),l.length<1099511000000∧ds=[.sl .plain nl l.length (bys l)],fun ds=> .agg (bys (sha (gBs (gCs (nth ds 0)))))⟩
def z5Na:z5a:=⟨fun ds=>∃(nl:Option Bool) (l:List UInt8),l.length<1099511000000∧ds=[.sl .plain nl l.length (bys l)],fun ds=> .agg (bys ((sha (gBs (gCs (nth ds 0)))).take 16))⟩
def z9Ma:z5a:=⟨fun ds=>∃(tag:Int) (nl:Option Bool) (l:List (List UInt8)),z8ja l<1099510000000∧ds=[i64 tag,.sl .plain nl l.length (sts l)],
 fun ds=> .sl (.own 1) (some false) (z7l (asI (nth ds 0)) (gSs (gCs (nth ds 1)))).length (bys (z7l (asI (nth ds 0)) (gSs (gCs (nth ds 1)))))⟩
def z0vb:z5a:=⟨fun ds=>∃(tag:Int) (nl:Option Bool) (l:List (List UInt8)),z8ja l<1099510000000∧ds=[i64 tag,.sl .plain nl l.length (sts l)],fun ds=> .agg (bys (z4j (asI (nth ds 0)) (gSs (gCs (nth ds 1)))))⟩
def z2ob:z5a:=⟨fun ds=>∃n,z1n n∧ds=[i64 n],fun ds=> .sl (.own 1) none (z4J (asI (nth ds 0))).length (bys (z4J (asI (nth ds 0))))⟩
def z4ra:z5a:=⟨fun ds=>∃s:List UInt8,s.length≤1099511000000∧ds=[st s],fun ds=> .sl (.own 1) none (z5N (gS (nth ds 0))).length (bys (z5N (gS (nth ds 0))))⟩
theorem z7Jb {x:UInt32} {n:Int} (h0:0≤n) (h1:n≤32):z4fb.pre [u32 x,i64 n]=True:=eq_true ⟨x,n,h0,h1,rfl⟩
@[simp] theorem z3Bd (x:UInt32) (n:Int):z4fb.post [u32 x,i64 n]=u32 (z71 x n.toNat):=by simp[z4fb]
theorem z28b {b:List UInt8} {nl:Option Bool} {n:Nat} (hn:n=64) (h:b.length=64):z40.pre [.sl .plain nl n (bys b)]=True:=eq_true ⟨nl,b,h,by rw[hn]⟩
@[simp] theorem z3ld (b:List UInt8) (nl:Option Bool) (n:Nat):z40.post [.sl .plain nl n (bys b)]= .agg (z6o (z9j b 64)):=by simp[z40]
theorem z9Sb {b:List UInt8} {nl:Option Bool} {n:Nat} (hn:n=b.length) (h:b.length<1099511000000):z6ra.pre [.sl .plain nl n (bys b)]=True:=eq_true ⟨nl,b,h,by rw[hn]⟩
@[simp] theorem z1Sc (b:List UInt8) (nl:Option Bool) (n:Nat):z6ra.post [.sl .plain nl n (bys b)]= .sl (.own 1) (some false) (z9P b).length (bys (z9P b)):=by simp[z6ra]
theorem z4Sb {h:List UInt8} (hl:h.length=16):z0pa.pre [.agg (bys h)]=True:=eq_true ⟨h,hl,rfl⟩
@[simp] theorem z8Nc (h:List UInt8):z0pa.post [.agg (bys h)]=st h:=by simp[z0pa]
theorem z5lc {l:List UInt8} {nl:Option Bool} {n:Nat} (hn:n=l.length) (h:l.length<1099511000000):z6jb.pre [.sl .plain nl n (bys l)]=True:=eq_true ⟨nl,l,h,by rw[hn]⟩
@[simp] theorem z0vd (l:List UInt8) (nl:Option Bool) (n:Nat):z6jb.post [.sl .plain nl n (bys l)]= .agg (bys (sha l)):=by simp[z6jb]
theorem z3Zb {l:List UInt8} {nl:Option Bool} {n:Nat} (hn:n=l.length) (h:l.length<1099511000000):z5Na.pre [.sl .plain nl n (bys l)]=True:=eq_true ⟨nl,l,h,by rw[hn]⟩
@[simp] theorem z3jd (l:List UInt8) (nl:Option Bool) (n:Nat):z5Na.post [.sl .plain nl n (bys l)]= .agg (bys ((sha l).take 16)):=by simp[z5Na]
theorem z7Zb {tag:Int} {nl:Option Bool} {n:Nat} {l:List (List UInt8)} (hn:n=l.length) (h:z8ja l<1099510000000):z9Ma.pre [i64 tag,.sl .plain nl n (sts l)]=True:=eq_true ⟨tag,nl,l,h,by rw[hn]⟩
@[simp] theorem z9nd (tag:Int) (nl:Option Bool) (n:Nat) (l:List (List UInt8)):z9Ma.post [i64 tag,.sl .plain nl n (sts l)]= .sl (.own 1) (some false) (z7l tag l).length (bys (z7l tag l)):=by simp[z9Ma]
theorem z7Sc {tag:Int} {nl:Option Bool} {n:Nat} {l:List (List UInt8)} (hn:n=l.length) (h:z8ja l<1099510000000):z0vb.pre [i64 tag,.sl .plain nl n (sts l)]=True:=eq_true ⟨tag,nl,l,h,by rw[hn]⟩
@[simp] theorem z1Hb (tag:Int) (nl:Option Bool) (n:Nat) (l:List (List UInt8)):z0vb.post [i64 tag,.sl .plain nl n (sts l)]= .agg (bys (z4j tag l)):=by simp[z0vb]
theorem z8rc {n:Int} (h0: -9223372036854775808≤n) (h1:n≤9223372036854775807):z2ob.pre [i64 n]=True:=eq_true ⟨n,⟨h0,h1⟩,rfl⟩
@[simp] theorem z8qd (n:Int):z2ob.post [i64 n]= .sl (.own 1) none (z4J n).length (bys (z4J n)):=by simp[z2ob]
theorem z3Vb {s:List UInt8} (h:s.length≤1099511000000):z4ra.pre [st s]=True:=eq_true ⟨s,h,rfl⟩
@[simp] theorem z1Rc (s:List UInt8):z4ra.post [st s]= .sl (.own 1) none (z5N s).length (bys (z5N s)):=by simp[z4ra]
theorem z2bb {n:Int} (h0: -9223372036854775808≤n) (h1:n≤9223372036854775807):z1Rb.pre [i64 n]=True:=eq_true ⟨n,⟨h0,h1⟩,rfl⟩
@[simp] theorem z42d (n:Int):z1Rb.post [i64 n]= .sl (.own 1) (some false) (z4J n).length (bys (z4J n)):=by simp[z1Rb]
end Go.Abs
end

section
namespace Go.Abs
def z4x (l:List Int):List UInt8:=z4J l.length++l.flatMap z4J
def z6zd (l:List (List UInt8)):List UInt8:=z4J l.length++l.flatMap z5N
def z9zd (n:Nat) (d:List UInt8):List UInt8:=z4J n++d
theorem z8dc {n:Nat} (h:n≤9223372036854775807):z1n (n:Int):=⟨by omega,by omega⟩
theorem z1l:∀{l:List Int},(∀x∈l,z1n x)→(l.flatMap z4J).length≤9*l.length
 |[],_=>by simp
 |x::l,h=>by
  have h1:=z2s (h x (by simp))
  have h2:=z1l (l:=l) fun y hy=>h y (by simp[hy])
  simp only[List.flatMap_cons,List.length_append,List.length_cons]
  omega
theorem z0zb {l:List Int} {i:Nat} (h:i<l.length):atI l i∈l:=by simp[atI,List.getD,List.getElem?_eq_getElem h]
def own1 (nf:Option Bool) (l:List UInt8):z2a:= .sl (.own 1) nf l.length (bys l)
def z3Td (f:List Int→z2a):z5a:=⟨fun ds=>∃nl l,l.length≤100000000∧(∀x∈l,z1n x)∧ds=[.sl .plain nl l.length (z9p l)],fun ds=>f (gIs (gCs (nth ds 0)))⟩
theorem z2Jb {f:List Int→z2a} {nl:Option Bool} {n:Nat} {l:List Int} (h:l.length≤100000000) (hl:∀x∈l,z1n x) (hn:n=l.length):(z3Td f).pre [.sl .plain nl n (z9p l)]=True:=by
 subst hn;exact eq_true ⟨nl,l,h,hl,rfl⟩
@[simp] theorem z9Ta (f:List Int→z2a) (m:z0ka) (nl:Option Bool) (n:Nat) (l:List Int):(z3Td f).post [.sl m nl n (z9p l)]=f l:=by simp[z3Td]
def z1G:z5a:=z3Td fun l=>own1 (some false) (z4x l)
def z1F:z5a:=⟨fun ds=>∃nl nl' a b,a.length≤1000000000∧ds=[.sl .plain nl a.length (z9p a),.sl .plain nl' b.length (z9p b)],fun ds=>bo (gIs (gCs (nth ds 0))==gIs (gCs (nth ds 1)))⟩
theorem z8Ya {nl nl':Option Bool} {n m:Nat} {a b:List Int} (h:a.length≤1000000000) (hn:n=a.length) (hm:m=b.length):z1F.pre [.sl .plain nl n (z9p a),.sl .plain nl' m (z9p b)]=True:=by
 subst hn;subst hm;exact eq_true ⟨nl,nl',a,b,h,rfl⟩
@[simp] theorem z5fd (m m':z0ka) (nl nl':Option Bool) (n k:Nat) (a b:List Int):z1F.post [.sl m nl n (z9p a),.sl m' nl' k (z9p b)]=bo (a==b):=by simp[z1F]
end Go.Abs
end
