/- Lemmas. -/
import Derived.Test.YtiehmnjjlbndlaaGreatDoorI
set_option linter.all false
namespace Go.Abs
set_option maxRecDepth 100000
def DI:av:=
 Yr [2,3] [Ym 17 0,Yn 18 17,Yk 19 167 18,Ym 3 19] (YR [2] [.norm [2]] [Ym 20 0,Ym 21 3,YX 22 16 20 21,Yk 23 168 22,Ym 24 0,Ym 25 3,YF 26 16 24 25,Yk 27 168 26,YK 28 169 23 27,Yk 29 165 28,Ys 16 2 2 29] .ret)
def pK:nH:=
 {n:=1,wr:=[],res:=[.cell 2 (some 16) 2],body:=YR [2] [.norm [2]] [Yz 2 2 16] (Yq (Yr [2,5] [Ym 4 0,Yn 5 4] (.block 0 (Yr [2,5,6] [YB 7 .eql 5 0,Ym 6 7] (Yd 6 (YR [2] [.norm [2]] [Yo 8 (.call 164 [.c (u8 1),.c (.lit (.slice none 0 0))] []),Yk 9 165 8,Ys 16 2 2 9] .ret) (Yr [2,10] [YB 11 .eql 5 1,Ym 10 11] (Yd 10 (YR [2] [.norm [2]] [Ym 12 0,YI 13 16 12 0,YJ 14 16 13,Yk 15 166 14,Yk 16 165 15,Ys 16 2 2 16] .ret) (Yy [2]))))))) DI)}
def tc:nH:=
 {n:=1,wr:=[],res:=[.t 2],body:=Yr [] [Yc 2 0] (Yr [2] [Ym 3 0,YB 4 .sub 3 1,YE 5 .u64 4,Yk 6 170 5,YB 7 .sub 6 1,Yo 8 (.bin .shl (.c (i64 1)) (.s 7)),Ym 2 8] .ret)}
def uk:nH:=
 {n:=1,wr:=[],res:=[.cell 2 (some 16) 2],body:=YR [2] [.norm [2]] [Yz 2 2 16] (YR [2,3] [.norm [2,3]] [Ym 4 0,Yk 5 3 4,Yz 3 3 32,Ys 32 3 3 5] (YR [2] [.norm [2,3]] [Yo 6 (.slArr 32 1 (.s 3) none (some (.c (i64 16))) none),Yo 7 (.s2ap 16 (.s 6)),YL 8 16 3 7,Ys 16 2 2 8] .ret))}
def CG:av:=
 Yq (.block 1 (YR [5,7,10,11,12] [.norm [7]] [Yi 14 16 10 12,YJ 15 16 14,Yz 7 7 16,Ys 16 7 7 15] (Yu [5,10,11,12] [YM 16 5,Yo 17 (.slArr 16 1 (.s 7) none none none),Yo 18 (.toStr (some 7) (.s 17)),Yk 19 7 18,Yo 20 (.append 1 1 false (some false) none 16 (.s 19)),YM 5 20]))) (.region [5,10,11,12] [.drop [7]] [YB 21 .add 12 1,Ym 12 21])
def yz:av:=
 Yr [5,10,11,12,13] [Yb 13 .lss 12 11] (Yq (Yd 13 (Yy [5,10,11,12]) (YY [5])) CG)
def Cp:av:=
 Yr [4] [YM 22 5,YM 4 22] .ret
def sW:nH:=
 {n:=2,wr:=[],res:=[.t 4],body:=Yr [] [Yv 4 1] (Yr [5] [Ym 8 0,Yo 9 (.buildSl 1 1 [u8 0] [(0,1,.s 8)]),YM 5 9] (Yq (Yr [5,10,11,12] [Ym 10 1,Yn 11 10,Yc 12 0] (.block 0 (.loop yz))) Cp))}
def ua:nH:=
 {n:=1,wr:=[],res:=[.t 2],body:=YR [1] [.norm [1]] [Yx 1 1 16 0,Yv 2 1] (YR [2] [.norm [1]] [YL 3 16 1 1,YQ 4 3,Yo 5 (.call 164 [.c (u8 1),.s 4] []),YM 2 5] .ret)}
def tV:nH:=
 {n:=2,wr:=[],res:=[.t 4],body:=YR [2,3] [.norm [2,3]] [Yx 2 2 16 0,Yx 3 3 16 1,Yv 4 1] (YR [4] [.norm [2,3]] [YL 5 16 2 2,YL 6 16 3 3,Yo 7 (.buildSl 16 2 (bys (bF 32)) [(0,16,.s 5),(16,16,.s 6)]),Yo 8 (.call 164 [.c (u8 2),.s 7] []),YM 4 8] .ret)}
def vY:av:=
 Yq (.block 1 (.region [0,2,3] [.norm [0]] [Ym 14 0,Ym 15 2,Ym 16 0,Ym 17 3,Ym 18 0,Ym 19 3,Yi 20 1 18 19,Yl 21 0 20,Ym 22 0,Ym 23 2,Yi 24 1 22 23,Yl 25 0 24,Yi 26 1 14 15,YS 0 26 21,Yi 27 1 16 17,YS 0 27 25])) (Yu [0,2,3] [Ym 10 2,YB 11 .add 10 1,Ym 12 3,YB 13 .sub 12 1,Ym 2 11,Ym 3 13])
def tI:av:=
 Yq (Yr [0,2,3,9] [Ym 7 2,Ym 8 3,Yb 9 .lss 7 8] (Yd 9 (Yy [0,2,3]) (YY [0]))) vY
def ph:nH:=
 {n:=1,wr:=[],res:=[],body:=Yr [0,2,3] [Ym 4 0,Yn 5 4,YB 6 .sub 5 1,Yc 2 0,Ym 3 6] (.block 0 (.loop tI))}
def zu:av:=
 Yq (.block 1 (Yu [2,3] [Ym 14 0,Ym 15 2,Ym 16 0,Ym 17 3,Ym 18 0,Ym 19 3,Yi 20 1 18 19,Yj 21 20,Ym 22 0,Ym 23 2,Yi 24 1 22 23,Yj 25 24,Yi 26 1 14 15,YO .unsup,Yi 27 1 16 17,YO .unsup])) (Yu [2,3] [Ym 10 2,YB 11 .add 10 1,Ym 12 3,YB 13 .sub 12 1,Ym 2 11,Ym 3 13])
def tQ:av:=
 Yq (Yr [2,3,9] [Ym 7 2,Ym 8 3,Yb 9 .lss 7 8] (Yd 9 (Yy [2,3]) (YY []))) zu
def po:nH:=
 {n:=1,wr:=[],res:=[],body:=Yr [2,3] [Ym 4 0,Yn 5 4,YB 6 .sub 5 1,Yc 2 0,Ym 3 6] (.block 0 (.loop tQ))}
def rF:nH:=
 {n:=1,wr:=[],res:=[.t 2],body:=YR [1] [.norm [1]] [Yx 1 1 2 0,Yw 2 false] (YR [2] [.norm [1]] [Yf 3 0 1,Yl 4 1 3,YB 5 .geq 4 0,Ym 6 5,YG 6 (Yf 7 0 1),YG 6 (Yl 8 1 7),YG 6 (YB 9 .leq 8 4294967296),Yp 10 6 9,Ym 11 10,YG 11 (Yf 12 1 1),YG 11 (Yl 13 1 12),YG 11 (Yn 14 13),YG 11 (Yf 15 0 1),YG 11 (Yl 16 1 15),YG 11 (YE 17 .u64 16),YG 11 (Yk 18 188 17),YG 11 (Yb 19 .eql 14 18),Yp 20 11 19,Ym 2 20] .ret)}
def xz:av:=
 Yr [2] [Ym 6 0,Yk 7 190 6,Ym 2 7] .ret
def qu:nH:=
 {n:=1,wr:=[],res:=[.t 2],body:=Yr [] [Yc 2 0] (Yq (.cond (.c (bo false)) (Yr [2] [Ym 3 0,YE 4 .u32 3,Yk 5 189 4,Ym 2 5] .ret) (Yy [])) xz)}
def pP:nH:=
 {n:=1,wr:=[],res:=[.t 2],body:=YR [1] [.norm [1]] [Yo 1 (.box 1 none true (.s 0)),Yo 2 (.mv false (.c (.lit .nilFunc)))] (Yr [2] [Yo 3 (.mkfn 184 [] [.s 1]),Ym 2 3] .ret)}
def GP:av:=
 Yr [2] [Ym 6 0,Yk 7 192 6,Ym 2 7] .ret
def yu:nH:=
 {n:=1,wr:=[],res:=[.t 2],body:=Yr [] [Yc 2 0] (Yq (.cond (.c (bo false)) (Yr [2] [Ym 3 0,YE 4 .u32 3,Yk 5 191 4,Ym 2 5] .ret) (Yy [])) GP)}
def A6:av:=
 Yr [2] [Ym 6 0,Yk 7 194 6,Ym 2 7] .ret
def rY:nH:=
 {n:=1,wr:=[],res:=[.t 2],body:=Yr [] [Yc 2 0] (Yq (.cond (.c (bo false)) (Yr [2] [Ym 3 0,YE 4 .u32 3,Yk 5 193 4,Ym 2 5] .ret) (Yy [])) A6)}
def Cb:av:=
 Yr [2] [Ym 5 0,Ym 6 0,YU 7 .neg 6,Yb 8 .and 5 7,YW 9 .mul 8 (u32 125613361),YW 10 .shr 9 (u64 27),Yo 11 (.idxArr 32 1 (.g 4) (.s 10)),Yj 12 11,YE 13 .i64 12,Ym 2 13] .ret
def qD:nH:=
 {n:=1,wr:=[],res:=[.t 2],body:=Yr [] [Yc 2 0] (Yq (Yr [4] [Ym 3 0,YW 4 .eql 3 (u32 0)] (Yd 4 (Yr [2] [Yc 2 32] .ret) (Yy []))) Cb)}
def s6:av:=
 Yr [2] [Ym 5 0,Ym 6 0,YU 7 .neg 6,Yb 8 .and 5 7,YW 9 .mul 8 (u64 285870213051353865),YW 10 .shr 9 (u64 58),Yo 11 (.idxArr 64 1 (.g 3) (.s 10)),Yj 12 11,YE 13 .i64 12,Ym 2 13] .ret
def pX:nH:=
 {n:=1,wr:=[],res:=[.t 2],body:=Yr [] [Yc 2 0] (Yq (Yr [4] [Ym 3 0,YW 4 .eql 3 (u64 0)] (Yd 4 (Yr [2] [Yc 2 64] .ret) (Yy []))) s6)}
def xY:av:=
 Yu [3] [Yj 4 1,Yn 5 4,YB 6 .sub 5 1,Ym 3 6]
def up:av:=
 Yr [3,8] [Ym 7 3,YB 8 .geq 7 0] (Yd 8 (Yy [3]) (YY []))
def xU:av:=
 Yd 18 .ret (Yy [3])
def xG:zr:=
 .plain xU
def xK:zr:=
 .seq (.block 1 (.seq (.yield [3,18] [] [Ym 11 0,Ym 12 3,Yj 13 1,Ym 14 3,Yi 15 16 13 14,YJ 16 16 15] (some 17) 11 [.s 12,.s 16] [YU 18 .not 17]) xG)) (.plain (.region [3] [] [Ym 9 3,YB 10 .sub 9 1,Ym 3 10]))
def uq:zr:=
 .seq (.plain up) xK
def xN:zr:=
 .block 0 (.loop uq)
def qQ:z5oa:=
 {nx:=0,ny:=1,body:=.seq (.plain xY) xN}
def Jz:av:=
 Yr [2] [Ym 13 2,Ym 14 0,YE 15 .u8 14,Yo 16 (.idxStr (.c (st [0,1,2,2,3,3,3,3,4,4,4,4,4,4,4,4,5,5,5,5,5,5,5,5,5,5,5,5,5,5,5,5,6,6,6,6,6,6,6,6,6,6,6,6,6,6,6,6,6,6,6,6,6,6,6,6,6,6,6,6,6,6,6,6,7,7,7,7,7,7,7,7,7,7,7,7,7,7,7,7,7,7,7,7,7,7,7,7,7,7,7,7,7,7,7,7,7,7,7,7,7,7,7,7,7,7,7,7,7,7,7,7,7,7,7,7,7,7,7,7,7,7,7,7,7,7,7,7,8,8,8,8,8,8,8,8,8,8,8,8,8,8,8,8,8,8,8,8,8,8,8,8,8,8,8,8,8,8,8,8,8,8,8,8,8,8,8,8,8,8,8,8,8,8,8,8,8,8,8,8,8,8,8,8,8,8,8,8,8,8,8,8,8,8,8,8,8,8,8,8,8,8,8,8,8,8,8,8,8,8,8,8,8,8,8,8,8,8,8,8,8,8,8,8,8,8,8,8,8,8,8,8,8,8,8,8,8,8,8,8,8,8,8,8,8,8,8,8,8,8,8,8,8,8,8,8])) (.s 15)),YE 17 .i64 16,Yb 18 .add 13 17,Ym 2 18] .ret
def J8:av:=
 Yq (Yr [0,2,8] [Ym 7 0,YW 8 .geq 7 (u32 256)] (Yd 8 (Yr [0,2] [Ym 9 0,YW 10 .shr 9 (u64 8),Ym 0 10] (Yu [0,2] [Ym 11 2,YB 12 .add 11 8,Ym 2 12])) (Yy [0,2]))) Jz
def wA:nH:=
 {n:=1,wr:=[0],res:=[.t 2],body:=Yr [0,2] [Yc 2 0] (Yq (Yr [0,2,4] [Ym 3 0,YW 4 .geq 3 (u32 65536)] (Yd 4 (Yr [0] [Ym 5 0,YW 6 .shr 5 (u64 16),Ym 0 6] (Yu [0,2] [Yc 2 16])) (Yy [0,2]))) J8)}
def AV:av:=
 Yr [2] [Ym 19 2,Ym 20 0,YE 21 .u8 20,Yo 22 (.idxStr (.c (st [0,1,2,2,3,3,3,3,4,4,4,4,4,4,4,4,5,5,5,5,5,5,5,5,5,5,5,5,5,5,5,5,6,6,6,6,6,6,6,6,6,6,6,6,6,6,6,6,6,6,6,6,6,6,6,6,6,6,6,6,6,6,6,6,7,7,7,7,7,7,7,7,7,7,7,7,7,7,7,7,7,7,7,7,7,7,7,7,7,7,7,7,7,7,7,7,7,7,7,7,7,7,7,7,7,7,7,7,7,7,7,7,7,7,7,7,7,7,7,7,7,7,7,7,7,7,7,7,8,8,8,8,8,8,8,8,8,8,8,8,8,8,8,8,8,8,8,8,8,8,8,8,8,8,8,8,8,8,8,8,8,8,8,8,8,8,8,8,8,8,8,8,8,8,8,8,8,8,8,8,8,8,8,8,8,8,8,8,8,8,8,8,8,8,8,8,8,8,8,8,8,8,8,8,8,8,8,8,8,8,8,8,8,8,8,8,8,8,8,8,8,8,8,8,8,8,8,8,8,8,8,8,8,8,8,8,8,8,8,8,8,8,8,8,8,8,8,8,8,8,8,8,8,8,8,8])) (.s 21)),YE 23 .i64 22,Yb 24 .add 19 23,Ym 2 24] .ret
def xq:av:=
 Yq (Yr [0,2,14] [Ym 13 0,YW 14 .geq 13 (u64 256)] (Yd 14 (Yr [0,2] [Ym 15 0,YW 16 .shr 15 (u64 8),Ym 0 16] (Yu [0,2] [Ym 17 2,YB 18 .add 17 8,Ym 2 18])) (Yy [0,2]))) AV
def wK:av:=
 Yq (Yr [0,2,8] [Ym 7 0,YW 8 .geq 7 (u64 65536)] (Yd 8 (Yr [0,2] [Ym 9 0,YW 10 .shr 9 (u64 16),Ym 0 10] (Yu [0,2] [Ym 11 2,YB 12 .add 11 16,Ym 2 12])) (Yy [0,2]))) xq
def tS:nH:=
 {n:=1,wr:=[0],res:=[.t 2],body:=Yr [0,2] [Yc 2 0] (Yq (Yr [0,2,4] [Ym 3 0,YW 4 .geq 3 (u64 4294967296)] (Yd 4 (Yr [0] [Ym 5 0,YW 6 .shr 5 (u64 32),Ym 0 6] (Yu [0,2] [Yc 2 32])) (Yy [0,2]))) wK)}
def rS:nH:=
 {n:=1,wr:=[],res:=[.t 2],body:=Yr [] [Yc 2 0] (Yr [2] [Ym 3 0,YW 4 .shr 3 (u64 24),Yo 5 (.idxStr (.c (st [0,1,1,2,1,2,2,3,1,2,2,3,2,3,3,4,1,2,2,3,2,3,3,4,2,3,3,4,3,4,4,5,1,2,2,3,2,3,3,4,2,3,3,4,3,4,4,5,2,3,3,4,3,4,4,5,3,4,4,5,4,5,5,6,1,2,2,3,2,3,3,4,2,3,3,4,3,4,4,5,2,3,3,4,3,4,4,5,3,4,4,5,4,5,5,6,2,3,3,4,3,4,4,5,3,4,4,5,4,5,5,6,3,4,4,5,4,5,5,6,4,5,5,6,5,6,6,7,1,2,2,3,2,3,3,4,2,3,3,4,3,4,4,5,2,3,3,4,3,4,4,5,3,4,4,5,4,5,5,6,2,3,3,4,3,4,4,5,3,4,4,5,4,5,5,6,3,4,4,5,4,5,5,6,4,5,5,6,5,6,6,7,2,3,3,4,3,4,4,5,3,4,4,5,4,5,5,6,3,4,4,5,4,5,5,6,4,5,5,6,5,6,6,7,3,4,4,5,4,5,5,6,4,5,5,6,5,6,6,7,4,5,5,6,5,6,6,7,5,6,6,7,6,7,7,8])) (.s 4)),Ym 6 0,YW 7 .shr 6 (u64 16),YW 8 .and 7 (u32 255),Yo 9 (.idxStr (.c (st [0,1,1,2,1,2,2,3,1,2,2,3,2,3,3,4,1,2,2,3,2,3,3,4,2,3,3,4,3,4,4,5,1,2,2,3,2,3,3,4,2,3,3,4,3,4,4,5,2,3,3,4,3,4,4,5,3,4,4,5,4,5,5,6,1,2,2,3,2,3,3,4,2,3,3,4,3,4,4,5,2,3,3,4,3,4,4,5,3,4,4,5,4,5,5,6,2,3,3,4,3,4,4,5,3,4,4,5,4,5,5,6,3,4,4,5,4,5,5,6,4,5,5,6,5,6,6,7,1,2,2,3,2,3,3,4,2,3,3,4,3,4,4,5,2,3,3,4,3,4,4,5,3,4,4,5,4,5,5,6,2,3,3,4,3,4,4,5,3,4,4,5,4,5,5,6,3,4,4,5,4,5,5,6,4,5,5,6,5,6,6,7,2,3,3,4,3,4,4,5,3,4,4,5,4,5,5,6,3,4,4,5,4,5,5,6,4,5,5,6,5,6,6,7,3,4,4,5,4,5,5,6,4,5,5,6,5,6,6,7,4,5,5,6,5,6,6,7,5,6,6,7,6,7,7,8])) (.s 8)),Yb 10 .add 5 9,Ym 11 0,YW 12 .shr 11 (u64 8),YW 13 .and 12 (u32 255),Yo 14 (.idxStr (.c (st [0,1,1,2,1,2,2,3,1,2,2,3,2,3,3,4,1,2,2,3,2,3,3,4,2,3,3,4,3,4,4,5,1,2,2,3,2,3,3,4,2,3,3,4,3,4,4,5,2,3,3,4,3,4,4,5,3,4,4,5,4,5,5,6,1,2,2,3,2,3,3,4,2,3,3,4,3,4,4,5,2,3,3,4,3,4,4,5,3,4,4,5,4,5,5,6,2,3,3,4,3,4,4,5,3,4,4,5,4,5,5,6,3,4,4,5,4,5,5,6,4,5,5,6,5,6,6,7,1,2,2,3,2,3,3,4,2,3,3,4,3,4,4,5,2,3,3,4,3,4,4,5,3,4,4,5,4,5,5,6,2,3,3,4,3,4,4,5,3,4,4,5,4,5,5,6,3,4,4,5,4,5,5,6,4,5,5,6,5,6,6,7,2,3,3,4,3,4,4,5,3,4,4,5,4,5,5,6,3,4,4,5,4,5,5,6,4,5,5,6,5,6,6,7,3,4,4,5,4,5,5,6,4,5,5,6,5,6,6,7,4,5,5,6,5,6,6,7,5,6,6,7,6,7,7,8])) (.s 13)),Yb 15 .add 10 14,Ym 16 0,YW 17 .and 16 (u32 255),Yo 18 (.idxStr (.c (st [0,1,1,2,1,2,2,3,1,2,2,3,2,3,3,4,1,2,2,3,2,3,3,4,2,3,3,4,3,4,4,5,1,2,2,3,2,3,3,4,2,3,3,4,3,4,4,5,2,3,3,4,3,4,4,5,3,4,4,5,4,5,5,6,1,2,2,3,2,3,3,4,2,3,3,4,3,4,4,5,2,3,3,4,3,4,4,5,3,4,4,5,4,5,5,6,2,3,3,4,3,4,4,5,3,4,4,5,4,5,5,6,3,4,4,5,4,5,5,6,4,5,5,6,5,6,6,7,1,2,2,3,2,3,3,4,2,3,3,4,3,4,4,5,2,3,3,4,3,4,4,5,3,4,4,5,4,5,5,6,2,3,3,4,3,4,4,5,3,4,4,5,4,5,5,6,3,4,4,5,4,5,5,6,4,5,5,6,5,6,6,7,2,3,3,4,3,4,4,5,3,4,4,5,4,5,5,6,3,4,4,5,4,5,5,6,4,5,5,6,5,6,6,7,3,4,4,5,4,5,5,6,4,5,5,6,5,6,6,7,4,5,5,6,5,6,6,7,5,6,6,7,6,7,7,8])) (.s 17)),Yb 19 .add 15 18,YE 20 .i64 19,Ym 2 20] .ret)}
def qZ:nH:=
 {n:=1,wr:=[0],res:=[.t 2],body:=Yr [0] [Yc 2 0] (Yr [0] [Ym 3 0,YW 4 .shr 3 (u64 1),YW 5 .and 4 (u64 6148914691236517205),Ym 6 0,YW 7 .and 6 (u64 6148914691236517205),Yb 8 .add 5 7,Ym 0 8] (Yr [0] [Ym 9 0,YW 10 .shr 9 (u64 2),YW 11 .and 10 (u64 3689348814741910323),Ym 12 0,YW 13 .and 12 (u64 3689348814741910323),Yb 14 .add 11 13,Ym 0 14] (Yr [0] [Ym 15 0,YW 16 .shr 15 (u64 4),Ym 17 0,Yb 18 .add 16 17,YW 19 .and 18 (u64 1085102592571150095),Ym 0 19] (Yr [0] [Ym 20 0,Ym 21 0,YW 22 .shr 21 (u64 8),Yb 23 .add 20 22,Ym 0 23] (Yr [0] [Ym 24 0,Ym 25 0,YW 26 .shr 25 (u64 16),Yb 27 .add 24 26,Ym 0 27] (Yr [0] [Ym 28 0,Ym 29 0,YW 30 .shr 29 (u64 32),Yb 31 .add 28 30,Ym 0 31] (Yr [2] [Ym 32 0,YE 33 .i64 32,YB 34 .and 33 127,Ym 2 34] .ret)))))))}
theorem Qv{l:List (List UInt8)}(h:qm l):(l.flatMap mX).length<=25*l.length:=by
 induction l with
 |nil=>simp
 |cons d l ih=>obtain⟨h1,h2⟩:=pN.1 h;have:=ih h2;have e:=rJ (n:=(d.length:Int)) (by rw[h1];exact⟨by decide,by decide⟩);simp only[List.flatMap_cons,List.length_append,mX,List.length_cons];omega
set_option maxHeartbeats 4000000 in
theorem WU(E:Env)(h7:E.G 7=Dy):∀ds,inM.pre ds->ds.length=sW.n∧awp E sW.body (qH sW.res (inM.post ds)) (fP sW.wr ds):=by
 rintro _ ⟨t,nl,l,h,hl,rfl⟩;have hf:=Qv h;rw[ur,IG h];simp(maxSteps:=999999) (disch:=first|omega|simp<;>omega|rfl) [fJ,oG,oF,sW];refine oI λQ0 hQ0=> ?_;refine dH (λi:Nat=>⟨[(0,u8 t),(1,.sl .plain nl l.length (bys (dgs l)))],[(5,.sl (.own 1) (some false) (t::(l.take i).flatMap mX).length (bys (t::(l.take i).flatMap mX))),(10,.sl .plain nl l.length (bys (dgs l))),(11,i64 l.length),(12,i64 i)],[]⟩) (λi=>l.length-i) (· <=l.length) 0 (by simp;rfl) (by simp) λi hi=> ?_;refine oI λQ1 hQ1=> ?_;by_cases h1:i<l.length
 ·have hs:=rz l mX [] h1;have ha:=zW h h1;have hx:=sG h h1;have hd:=qL h;have hf':=Qv (sD h i);rw[List.length_take] at hf';rw[show l.getD i []=ul l i from rfl] at hs;generalize ul l i=x at*
  generalize hF:(l.take i).flatMap mX=F at*
  have e:=rJ (n:=(x.length:Int)) (by rw[hx];exact⟨by decide,by decide⟩);have el:(mX x).length=(eU x.length).length+x.length:=by rw[mX,List.length_append]
  simp(maxSteps:=999999) (disch:=first|omega|simp<;>omega|rfl) [fJ,oG,oF,yz,CG,h1,kT,kF,dT,dF,ha,hd,hx,pB,oM,h7,Gc,hQ1,-List.length_flatMap];exact⟨by omega,by omega,i+1,by omega,by omega,⟨by rw[hs,List.length_append];omega,hs.symm⟩,by omega⟩
 obtain rfl:i=l.length:=by omega
 simp(maxSteps:=999999) (disch:=first|omega|simp<;>omega|rfl) [fJ,oG,oF,yz,Cp,h1,kT,kF,dT,dF,hQ1,hQ0,-List.length_flatMap];rw[List.length_flatMap]
theorem Ud(E:Env)(h3:E.G 3=LT):∀ds,shM.pre ds->ds.length=uk.n∧awp E uk.body (qH uk.res (shM.post ds)) (fP uk.wr ds):=by rintro _ ⟨nl,b,hb,rfl⟩;rw[Rf];simp(maxSteps:=999999) (disch:=first|omega|simp<;>omega|rfl) [fJ,oG,oF,uk,h3,z8i,pB,cT,List.take_take]
theorem z5J(E:Env)(h164:E.G 164=inM):∀ds,IY.pre ds->ds.length=ua.n∧awp E ua.body (qH ua.res (IY.post ds)) (fP ua.wr ds):=by
 rintro _ ⟨d,hd,rfl⟩;have h1:qm [d]:=pN.2 ⟨hd,tg⟩;have hp:inM.pre [u8 1,.sl .plain (some false) 1 (bys d)]=True:=PN (l:=[d]) h1 (by simp) rfl (by simp);have hq:inM.post [u8 1,.sl .plain (some false) 1 (bys d)]= .sl (.own 1) (some false) (mY 1 [d]).length (bys (mY 1 [d])):=by have:=IG (t:=1) (nl:=some false) h1;rw[show dgs [d]=d by simp] at this;exact this
 rw[Tx];simp(maxSteps:=999999) (disch:=first|omega|simp<;>omega|rfl) [fJ,oG,oF,ua,h164,hp,hq,pB,hd,oM]
theorem z3M(E:Env)(h164:E.G 164=inM):∀ds,EH.pre ds->ds.length=tV.n∧awp E tV.body (qH tV.res (EH.post ds)) (fP tV.wr ds):=by
 rintro _ ⟨a,b,ha,hb,rfl⟩;have h1:qm [a,b]:=pN.2 ⟨ha,pN.2 ⟨hb,tg⟩⟩;have hp:inM.pre [u8 2,.sl .plain (some false) 2 (bys (a++b))]=True:=PN (l:=[a,b]) h1 (by simp) rfl (by simp);have hq:inM.post [u8 2,.sl .plain (some false) 2 (bys (a++b))]= .sl (.own 1) (some false) (mY 2 [a,b]).length (bys (mY 2 [a,b])):=by have:=IG (t:=2) (nl:=some false) h1;rw[show dgs [a,b]=a++b by simp] at this;exact this
 have hsp:splice (splice (bys (bF 32)) 0 (bys a)) 16 (bys b)=bys (a++b):=by simp[splice,ha,hb,sP,List.take_append,List.drop_append,bF,bys]
 rw[To];simp(maxSteps:=999999) (disch:=first|omega|simp<;>omega|rfl) [fJ,oG,oF,tV,h164,hp,hq,hsp,pB,ha,hb,oM]
def noC:aW:=⟨λ_=>False,λ_=> .undef⟩
theorem Y5(E:Env):∀ds,noC.pre ds->ds.length=wA.n∧awp E wA.body (qH wA.res (noC.post ds)) (fP wA.wr ds):=by intro _ h;exact h.elim
theorem Vs(E:Env):∀ds,noC.pre ds->ds.length=rS.n∧awp E rS.body (qH rS.res (noC.post ds)) (fP rS.wr ds):=by intro _ h;exact h.elim
theorem z8L(E:Env):∀ds,noC.pre ds->ds.length=qD.n∧awp E qD.body (qH qD.res (noC.post ds)) (fP qD.wr ds):=by intro _ h;exact h.elim
theorem z3fa:∀x:Fin 256,(([0,1,2,2,3,3,3,3]++List.replicate 8 4++List.replicate 16 5++List.replicate 32 6++List.replicate 64 7++List.replicate 128 8:List UInt8).getD x.val 0).toNat=Nc x.val:=by decide+kernel
theorem LD{n k:Nat}(h:2^k<=n):Nc (n/2^k)+k=Nc n:=by
 have hp:0<2^k:=Nat.two_pow_pos k;have h1:n/2^k≠0:=by have:=Nat.div_pos h hp;omega
 have h0:n≠0:=by omega
 have a1:=Nat.log2_self_le h1;have a2:n/2^k<2^(Nat.log2 (n/2^k)+1):=Nat.lt_log2_self;have b1:2^(Nat.log2 (n/2^k)+k)<=n:=by rw[Nat.pow_add];exact(Nat.le_div_iff_mul_le hp).1 a1
 have b2:n<2^(Nat.log2 (n/2^k)+k+1):=by rw[show Nat.log2 (n/2^k)+k+1=(Nat.log2 (n/2^k)+1)+k by omega,Nat.pow_add];exact(Nat.div_lt_iff_lt_mul hp).1 a2
 rw[Zt b1 b2,Nc,if_neg h1];omega
theorem AP(x:UInt64)(k:Nat)(hk:k<64):(ct x k).toNat=x.toNat/2^k:=by simp[ct,Nat.shiftRight_eq_div_pow]
@[simp] theorem gY(x y:UInt64):aE .geq (u64 x) (u64 y)=bo (decide (y<=x)):=by show oH.lit (.bool (decide ((x.toNat:Int)≥y.toNat)))= .lit (.bool _);congr 2;simp[UInt64.le_iff_toNat_le]
theorem z1sa(E:Env)(a b:av)(Q:aB->ASt->Prop)(st:ASt):awp E (.cond (.c (bo false)) a b) Q st=awp E b Q st:=by rw[bq];apply propext;simp[arg,isB,asB,bo,-z15]
set_option maxRecDepth 100000 in
set_option maxHeartbeats 4000000 in
theorem z4o(E:Env){y:UInt64}{n m:Nat}{Q0:aB->ASt->Prop}(hy:y.toNat<256)(hn:n<=1000)(hm:n+Nc y.toNat=m)(hQ0:Q0=qH [gR.t 2] (i64 m)):awp E AV Q0 ⟨[],[(0,u64 y),(2,i64 n)],[]⟩:=by
 have ht:=z3fa ⟨y.toNat,hy⟩;have hmod:((y.toNat:Int)% 256).toNat=y.toNat:=by omega
 have key:∀(L:List UInt8) (k:Nat) (h:k<L.length),k=y.toNat->(L[k]).toNat=(L.getD y.toNat 0).toNat:=by intro L k h e;subst e;simp[List.getD,List.getElem?_eq_getElem h]
 simp(maxSteps:=999999) (disch:=first|omega|simp<;>omega|rfl) [fJ,oG,oF,AV,hQ0];refine⟨⟨by omega,by omega⟩,?_⟩;rw[key _ _ _ hmod];refine Eq.trans (congrArg (λz:Nat=>W ((n:Int)+(z:Int))) (a₂:=Nc y.toNat) ht) ?_;have hb:Nc y.toNat<=8:=by
  unfold Nc;split
  ·omega
  rename_i h0;have:=(Nat.log2_lt h0).2 (show y.toNat<2^8 from hy);omega
 show W ((n:Int)+(Nc y.toNat:Int))=m;rw[fJ (by omega) (by omega)];omega
set_option maxHeartbeats 4000000 in
theorem z4l(E:Env){y:UInt64}{n m:Nat}{Q0:aB->ASt->Prop}(hy:y.toNat<65536)(hn:n<=100)(hm:n+Nc y.toNat=m)(hQ0:Q0=qH [gR.t 2] (i64 m)):awp E xq Q0 ⟨[],[(0,u64 y),(2,i64 n)],[]⟩:=by
 by_cases h:256<=y.toNat
 ·have h':(256:UInt64)<=y:=by rw[UInt64.le_iff_toNat_le];exact h
  have e1:=LD (k:=8) h;have e2:=AP y 8 (by decide);simp(maxSteps:=999999) (disch:=first|omega|simp<;>omega|rfl) [fJ,oG,oF,xq,h',kT,kF,dT,dF];rw[show((n:Int)+8)=((n+8:Nat):Int) by omega];exact z4o E (by rw[e2];omega) (by omega) (by rw[e2];omega) hQ0
 have h':¬(256:UInt64)<=y:=by rw[UInt64.le_iff_toNat_le];exact h
 simp(maxSteps:=999999) (disch:=first|omega|simp<;>omega|rfl) [fJ,oG,oF,xq,h',kT,kF,dT,dF];exact z4o E (by omega) (by omega) hm hQ0
set_option maxHeartbeats 4000000 in
theorem z6o(E:Env){y:UInt64}{n m:Nat}{Q0:aB->ASt->Prop}(hy:y.toNat<4294967296)(hn:n<=50)(hm:n+Nc y.toNat=m)(hQ0:Q0=qH [gR.t 2] (i64 m)):awp E wK Q0 ⟨[],[(0,u64 y),(2,i64 n)],[]⟩:=by
 by_cases h:65536<=y.toNat
 ·have h':(65536:UInt64)<=y:=by rw[UInt64.le_iff_toNat_le];exact h
  have e1:=LD (k:=16) h;have e2:=AP y 16 (by decide);simp(maxSteps:=999999) (disch:=first|omega|simp<;>omega|rfl) [fJ,oG,oF,wK,h',kT,kF,dT,dF];rw[show((n:Int)+16)=((n+16:Nat):Int) by omega];exact z4l E (by rw[e2];omega) (by omega) (by rw[e2];omega) hQ0
 have h':¬(65536:UInt64)<=y:=by rw[UInt64.le_iff_toNat_le];exact h
 simp(maxSteps:=999999) (disch:=first|omega|simp<;>omega|rfl) [fJ,oG,oF,wK,h',kT,kF,dT,dF];exact z4l E (by omega) (by omega) hm hQ0
set_option maxHeartbeats 4000000 in
theorem Zn(E:Env):∀ds,TG.pre ds->ds.length=tS.n∧awp E tS.body (qH tS.res (TG.post ds)) (fP tS.wr ds):=by
 rintro _ ⟨x,rfl⟩;rw[OB];by_cases h:4294967296<=x.toNat
 ·have h':(4294967296:UInt64)<=x:=by rw[UInt64.le_iff_toNat_le];exact h
  have e1:=LD (k:=32) h;have e2:=AP x 32 (by decide);have e3:=x.toNat_lt;simp(maxSteps:=999999) (disch:=first|omega|simp<;>omega|rfl) [fJ,oG,oF,tS,h',kT,kF,dT,dF];exact z6o E (n:=32) (by rw[e2];omega) (by omega) (by rw[e2];omega) rfl
 have h':¬(4294967296:UInt64)<=x:=by rw[UInt64.le_iff_toNat_le];exact h
 simp(maxSteps:=999999) (disch:=first|omega|simp<;>omega|rfl) [fJ,oG,oF,tS,h',kT,kF,dT,dF];exact z6o E (n:=0) (by omega) (by omega) (by omega) rfl
theorem z24(E:Env)(h192:E.G 192=TG):∀ds,TG.pre ds->ds.length=yu.n∧awp E yu.body (qH yu.res (TG.post ds)) (fP yu.wr ds):=by rintro _ ⟨x,rfl⟩;rw[OB];simp(maxSteps:=999999) (disch:=first|omega|simp<;>omega|rfl) [fJ,oG,oF,yu,GP,h192,z1sa]
@[simp] theorem gF(x n:Int):aE .shl (i64 x) (i64 n)=i64 (W (x*2^(min n.toNat 64))):=rfl
@[simp] theorem ej(x n:Int):oV .shl (i64 x) (i64 n)=(0<=n):=rfl
theorem Px{m:Nat}(h:m<18446744073709551616):(UInt64.ofInt (m:Int)).toNat=m:=by simp only[UInt64.ofInt,UInt64.toNat_ofNat'];omega
theorem z0h(E:Env)(h170:E.G 170=TG):∀ds,LM.pre ds->ds.length=tc.n∧awp E tc.body (qH tc.res (LM.post ds)) (fP tc.wr ds):=by
 rintro _ ⟨n,h2,h,rfl⟩;rw[Nx];have e0:((n:Int)-1)=((n-1:Nat):Int):=by omega
 have e1:=Px (m:=n-1) (by omega);have h0:n-1≠0:=by omega
 have e2:Nc (n-1)=Nat.log2 (n-1)+1:=by rw[Nc,if_neg h0]
 have e3:Nat.log2 (n-1)<63:=(Nat.log2_lt h0).2 (by omega);have e4:=kK h2;simp(maxSteps:=999999) (disch:=first|omega|simp<;>omega|rfl) [fJ,oG,oF,tc,h170,e0,e1,e2];have e5:W ((Nat.log2 (n-1):Int))=Nat.log2 (n-1):=fJ (by omega) (by omega);have e6:(2:Int)^Nat.log2 (n-1)=(spl n:Int):=by simp[spl]
 rw[e6,fJ (by omega) (by omega)]
theorem zJ{t:Int}{l:List (List UInt8)}(h:qm l):(mY t l).length<=25*l.length+1:=by have:=Qv h;simp only[mY,List.length_cons];omega
theorem De{a b:List UInt8}(ha:a.length=16)(hb:b.length=16):qm [a,b]:=pN.2 ⟨ha,pN.2 ⟨hb,tg⟩⟩
theorem z4h{a:List UInt8}(ha:a.length=16):qm [a]:=pN.2 ⟨ha,tg⟩
@[simp] theorem iH(b:List UInt8):(cT b).length=16:=by simp[cT,J4]
def JF(ds:List oH):Nat:=bc (nth ds 0)
set_option maxHeartbeats 4000000 in
theorem z2A(E:Env)(k:Nat)(h164:E.G 164=inM)(h165:E.G 165=shM)(h166:E.G 166=IY)(h167:E.G 167=LM)(h169:E.G 169=EH)(h168:E.G 168=HG FW JF k):∀ds,(HG FW JF (k+1)).pre ds->ds.length=pK.n∧awp E pK.body (qH pK.res (FW.post ds)) (fP pK.wr ds):=by
 rintro _ ⟨⟨nl,l,h,hl,rfl⟩,hk⟩;rw[ur,E2 h rfl rfl];have hk:l.length<k+1:=hk;by_cases h0:l.length=0
 ·have e:l=[]:=List.length_eq_zero_iff.1 h0;subst e;have hr:root []=cT (mY 1 []):=Ax (by decide);have hp:inM.pre [u8 1,.sl .plain (some true) 0 []]=True:=PN (l:=[]) (b:=[]) tg (by simp) rfl rfl;have hq:inM.post [u8 1,.sl .plain (some true) 0 []]= .sl (.own 1) (some false) (mY 1 []).length (bys (mY 1 [])):=IG (t:=1) (nl:=some true) tg;simp(maxSteps:=999999) (disch:=first|omega|simp<;>omega|rfl) [fJ,oG,oF,pK,h164,hp,hq,h165,zQ,kT,kF,dT,dF,hr,pB];exact⟨of_eq_true (zQ (by have:=zJ (t:=1) tg;simp only[List.length_nil] at this;omega) rfl),oM (iH _)⟩
 by_cases h1:l.length=1
 ·obtain⟨d,rfl⟩:=List.length_eq_one_iff.1 h1;have hd:d.length=16:=(pN.1 h).1;have hr:root [d]=cT (mY 1 [d]):=Ax (by simp);simp(maxSteps:=999999) (disch:=first|omega|simp<;>omega|rfl) [fJ,oG,oF,pK,h166,Jc,h165,zQ,kT,kF,dT,dF,hr,pB,hd,oM];exact of_eq_true (zQ (by have:=zJ (t:=1) (z4h hd);simp only[List.length_cons,List.length_nil] at this;omega) rfl)
 have h2:2<=l.length:=by omega
 have b0:((l.length:Int)==0)=false:=beq_false_of_ne (by omega);have b1:((l.length:Int)==1)=false:=beq_false_of_ne (by omega);have hd:=qL h;have hs:=kK h2;have hs1:=yl l.length;have hr:=EP h2;generalize hK:spl l.length=K at*
 have g1:qm (l.take K):=sD h K;have g2:qm (l.drop K):=Nn h K;have htk:(dgs (l.drop K)).take ((l.length-K)*16)=dgs (l.drop K):=List.take_of_length_le (by rw[qL g2,List.length_drop];exact Nat.le_refl _);have lk1:(l.take K).length=K:=by rw[List.length_take];omega
 have lk2:(l.drop K).length=l.length-K:=List.length_drop;have hp1:(HG FW JF k).pre [.sl .plain nl K (bys (dgs (l.take K)))]=True:=eq_true ⟨of_eq_true (Jb g1 (by omega) lk1.symm rfl),by show K<k;omega⟩;have hq1:(HG FW JF k).post [.sl .plain nl K (bys (dgs (l.take K)))]= .agg (bys (root (l.take K))):=E2 g1 lk1.symm rfl;have hp2:(HG FW JF k).pre [.sl .plain nl (l.length-K) (bys (dgs (l.drop K)))]=True:=eq_true ⟨of_eq_true (Jb g2 (by omega) lk2.symm rfl),by show l.length-K<k;omega⟩;have hq2:(HG FW JF k).post [.sl .plain nl (l.length-K) (bys (dgs (l.drop K)))]= .agg (bys (root (l.drop K))):=E2 g2 lk2.symm rfl;have r1:=sH (l.take K);have r2:=sH (l.drop K);have hil:=zJ (t:=2) (De r1 r2);have hr':root l=cT (mY 2 [root (l.take K),root (l.drop K)]):=hr;have hsl:(cT (mY 2 [root (l.take K),root (l.drop K)])).length=16:=iH _;rw[hr'];simp only[List.length_cons,List.length_nil] at hil;simp(maxSteps:=999999) (disch:=first|omega|simp<;>omega|rfl) [fJ,oG,oF,pK,DI,b0,b1,h167,EO,hK,hd,xt h,IK h,htk,h168,hp1,hq1,hp2,hq2,h169,CX r1 r2,h165,zQ,kT,kF,dT,dF,pB,oM hsl];exact Nat.le_of_lt hs
def Pd{α:Type}(d:α)(l:List α)(i:Nat):List α:=(List.range l.length).map λt=>l.getD (if t<i∨l.length-i<=t then l.length-1-t else t) d
@[simp] theorem EN{α:Type}(d:α)(l:List α)(i:Nat):(Pd d l i).length=l.length:=by simp[Pd]
theorem Gb{α:Type}(d:α)(l:List α)(i t:Nat)(h:t<l.length):(Pd d l i)[t]? =some (l.getD (if t<i∨l.length-i<=t then l.length-1-t else t) d):=by rw[Pd,List.getElem?_map,List.getElem?_range h];rfl
theorem z5Y{α:Type}(d:α)(l:List α):Pd d l 0=l:=by
 apply List.ext_getElem?;intro t;by_cases h:t<l.length
 ·rw[Gb d l 0 t h,if_neg (by omega),List.getD,List.getElem?_eq_getElem h];rfl
 rw[List.getElem?_eq_none (by simp;omega),List.getElem?_eq_none (by omega)]
theorem Zo{α:Type}(d:α)(l:List α){i:Nat}(hi:l.length<=2*i+1):Pd d l i=l.reverse:=by
 apply List.ext_getElem?;intro t;by_cases h:t<l.length
 ·rw[Gb d l i t h,List.getElem?_reverse h];have h':l.length-1-t<l.length:=by omega
  rw[List.getElem?_eq_getElem h'];by_cases c:t<i∨l.length-i<=t
  ·rw[if_pos c,List.getD,List.getElem?_eq_getElem h'];rfl
  rw[if_neg c,List.getD,List.getElem?_eq_getElem h];have:l.length-1-t=t:=by omega
  simp only[this];rfl
 rw[List.getElem?_eq_none (by simp;omega),List.getElem?_eq_none (by simp;omega)]
theorem QP{α:Type}(d:α)(l:List α){i t:Nat}(h1:i<=t)(h2:t<l.length-i):(Pd d l i).getD t d=l.getD t d:=by rw[List.getD,Gb d l i t (by omega),if_neg (by omega)];rfl
theorem Wd{α:Type}(d:α)(l:List α){i:Nat}(h:2*i+1<l.length):((Pd d l i).set i (l.getD (l.length-1-i) d)).set (l.length-1-i) (l.getD i d)=Pd d l (i+1):=by
 apply List.ext_getElem?;intro t;rw[List.getElem?_set,List.getElem?_set];by_cases ht:t<l.length
 ·rw[Gb d l (i+1) t ht];by_cases c1:l.length-1-i=t
  ·rw[if_pos c1,if_pos (by simp;omega),if_pos (by omega)];congr 2;omega
  rw[if_neg c1];by_cases c2:i=t
  ·rw[if_pos c2,if_pos (by simp;omega),if_pos (by omega)];congr 2;omega
  rw[if_neg c2,Gb d l i t ht];by_cases c:t<i∨l.length-i<=t
  ·rw[if_pos c,if_pos (by omega)]
  rw[if_neg c,if_neg (by omega)]
 rw[if_neg (by omega),if_neg (by omega),List.getElem?_eq_none (by simp;omega),List.getElem?_eq_none (by simp;omega)]
def Pr(nl:Option Bool)(l:List (List UInt8)):oH:= .sl (.own 16) nl l.length (bys (dgs l))
theorem yx(l:List Bool):(bos l).length=l.length:=by simp[bos]
theorem UI{l:List Bool}{i:Nat}(h:i<l.length):hdA ((bos l).drop i)=bo (l.getD i false):=by rw[bos,<-List.map_drop,List.drop_eq_getElem_cons h,List.map_cons,List.getD,List.getElem?_eq_getElem h];rfl
theorem K1{l:List Bool}{i:Nat}{x:Bool}(h:i<l.length):splice (bos l) i [bo x]=bos (l.set i x):=by simp only[splice,bos,<-List.map_take,<-List.map_drop,List.length_singleton];rw[List.set_eq_take_append_cons_drop,if_pos h];simp
@[simp] theorem z8S:Fc.hold=[0]:=rfl
@[simp] theorem z5la:Fc.bx=[0]:=rfl
@[simp] theorem z5ma:Fc.nb=[]:=rfl
@[simp] theorem z1U(ds:List oH)(bs:Nat->List oH):Fc.post ds bs= .tup []:=rfl
theorem R4(l:List Bool):z0Aa (bos l)=l:=by
 simp only[z0Aa,bos,List.map_map]
 conv=>rhs;rw[<-List.map_id l]
 exact List.map_congr_left λx _=>rfl
theorem IW:∀l:List Bool,pT (bos l)=[]
 |[]=>rfl
 |x::l=>by show aF (bo x)++pT (bos l)=[];rw[IW l];rfl
set_option maxHeartbeats 4000000 in
theorem z4I(E:Env):∀ds bs p,Fc.pre ds bs->ds.length=ph.n∧awp E ph.body (z2S ph.res Fc p ds bs) (MR Fc p ds bs):=by
 rintro _ bs p ⟨l,h0,hl,rfl,hb⟩;have hd:=yx l;have hout:∀j,Fc.out [.bv 0 1 0 l.length l.length] bs j=bos l.reverse:=λj=>by simp only[Fc,hb,R4]
 simp(maxSteps:=999999) (disch:=first|omega|simp<;>omega|rfl) [fJ,oG,oF,ph,MR,UG,hb];refine oI λQ0 hQ0=> ?_;refine dH (λi:Nat=>⟨[(0,.lit (p 0))],[(0,.bv 0 1 0 l.length l.length),(2,i64 i),(3,i64 ((l.length:Int)-1-i))],[(0,some (bos (Pd false l i)))]⟩) (λi=>l.length-i) (λi=>2*i<=l.length) 0 (by simp[z5Y]) (by omega) λi hi=> ?_;refine oI λQ1 hQ1=> ?_;by_cases h1:2*i+1<l.length
 ·have hlk:=yx (Pd false l i);rw[EN] at hlk;have hj:((l.length:Int)-1-i).toNat=l.length-1-i:=by omega
  have x1:=UI (l:=Pd false l i) (i:=i) (by rw[EN];omega);have x2:=UI (l:=Pd false l i) (i:=l.length-1-i) (by rw[EN];omega);rw[QP false l (Nat.le_refl _) (by omega)] at x1;rw[QP false l (by omega) (by omega)] at x2;have s1:=K1 (l:=Pd false l i) (i:=i) (x:=l.getD (l.length-1-i) false) (by rw[EN];omega);have s2:=K1 (l:=(Pd false l i).set i (l.getD (l.length-1-i) false)) (i:=l.length-1-i) (x:=l.getD i false) (by rw[List.length_set,EN];omega);have hl2:=yx ((Pd false l i).set i (l.getD (l.length-1-i) false));rw[List.length_set,EN] at hl2;rw[Wd false l h1] at s2;have h2:(i:Int)<(l.length:Int)-1-i:=by omega
  generalize l.getD i false=di at*
  generalize l.getD (l.length-1-i) false=dj at*
  simp(maxSteps:=999999) (disch:=first|omega|simp<;>omega|rfl) [fJ,oG,oF,tI,vY,h2,kT,kF,dT,dF,hj,hlk,x1,x2,s1,s2,hQ1,hl2];exact⟨by omega,by omega,by omega,by omega,by omega,by omega,by omega,by omega,i+1,by omega,by omega,⟨by omega,by omega⟩,rfl⟩
 have e:=Zo false l (i:=i) (by omega);have h2:¬((i:Int)<(l.length:Int)-1-i):=by omega
 simp(maxSteps:=999999) (disch:=first|omega|simp<;>omega|rfl) [fJ,oG,oF,tI,h2,kT,kF,dT,dF,hQ1,hQ0,z2S,hout,e,IW]
theorem z6h(E:Env):∀ds,z7l.pre ds->ds.length=po.n∧awp E po.body (qH po.res (z7l.post ds)) (fP po.wr ds):=by rintro _ ⟨m,nl,rfl⟩;simp(maxSteps:=999999) (disch:=first|omega|simp<;>omega|rfl) [fJ,oG,oF,po];refine oI λQ0 hQ0=> ?_;refine dH (λi:Nat=>⟨[(0,.sl .plain nl 0 [])],[(2,i64 0),(3,i64 (-1))],[]⟩) (λi=>i) (λ_=>True) 0 rfl trivial λi _=> ?_;simp(maxSteps:=999999) (disch:=first|omega|simp<;>omega|rfl) [fJ,oG,oF,tQ,kF,dF,hQ0,z7l]
@[simp] theorem z64(nl:Option Bool)(l:List (List UInt8)):aF (Pr nl l)=[]:=rfl
@[simp] theorem z38(nl:Option Bool)(l:List (List UInt8)):aF (ur nl l)=[]:=rfl
@[simp] theorem z0ma(m:List (Nat×Nat))(nl:Option Bool)(l:List (List UInt8)):ren m (Pr nl l)=Pr nl l:=rfl
@[simp] theorem z0na(m:List (Nat×Nat))(nl:Option Bool)(l:List (List UInt8)):ren m (ur nl l)=ur nl l:=rfl
@[simp] theorem z3S(nl:Option Bool)(l:List (List UInt8)):ak (Pr nl l)=true:=rfl
@[simp] theorem z9R(nl:Option Bool)(l:List (List UInt8)):ak (ur nl l)=true:=rfl
theorem z9D(a b:List Bool):bos a++bos b=bos (a++b):=by simp[bos]
@[simp] theorem Ut:∀l:List Bool,au (bos l)=true
 |[]=>rfl
 |x::l=>by show(ak (bo x)&&au (bos l))=true;rw[Ut l];rfl
attribute [local simp] Ky fnd wIn bU gv
def thB(b i id:Nat)(x:Option (List oH))(box:List (Nat×Option (List oH))):List (Nat×Option (List oH)):=
 match x with|some bs=>(match bs.getD i .undef with| .sl (.own e) _ n cs=>(b,some (bs.set i (.bv id e 0 n n)))::(id,some cs)::box|_=>box)|none=>box
@[simp] theorem li(b i id:Nat)(o e:List (Nat×oH))(box:List (Nat×Option (List oH))):oS (.thawB b i id) ⟨o,e,box⟩=⟨o,e,thB b i id (ASt.getB ⟨o,e,box⟩ b) box⟩:=by
 simp only[oS,thB];split
 ·split<;>simp_all
 simp_all
@[simp] theorem ob(b id e n:Nat)(nl:Option Bool)(cs:List oH)(box:List (Nat×Option (List oH))):thB b 0 id (some [.sl (.own e) nl n cs]) box=(b,some [.bv id e 0 n n])::(id,some cs)::box:=rfl
def thS(s id:Nat)(d:oH)(st:ASt):ASt:=match d with| .sl (.own e) _ n cs=>{st with env:=(s,.bv id e 0 n n)::st.env,box:=(id,some cs)::st.box}|_=>st
@[simp] theorem nU(s id:Nat)(o e:List (Nat×oH))(box:List (Nat×Option (List oH))):oS (.thaw s id) ⟨o,e,box⟩=thS s id (ASt.get ⟨o,e,box⟩ s) ⟨o,e,box⟩:=rfl
@[simp] theorem mU(s id k n:Nat)(nl:Option Bool)(cs:List oH)(o e:List (Nat×oH))(box:List (Nat×Option (List oH))):thS s id (.sl (.own k) nl n cs) ⟨o,e,box⟩=⟨o,(s,.bv id k 0 n n)::e,(id,some cs)::box⟩:=rfl
@[simp] theorem eG(m:List (Nat×Nat)):∀l:List UInt8,renL m (bys l)=bys l
 |[]=>rfl
 |x::l=>by show ren m (u8 x)::renL m (bys l)=_;rw[eG m l];rfl
@[simp] theorem z0j(m:List (Nat×Nat)):∀l:List Bool,renL m (bos l)=bos l
 |[]=>rfl
 |x::l=>by show ren m (bo x)::renL m (bos l)=_;rw[z0j m l];rfl
@[simp] theorem T2(ids:List Nat)(bx:Nat->List oH):∀l:List UInt8,bQ ids bx (bys l)=bys l
 |[]=>rfl
 |x::l=>by show eE ids bx (u8 x)::bQ ids bx (bys l)=_;rw[T2 ids bx l];rfl
@[simp] theorem oi(id o:Nat):fy (.bp id o)=true:=rfl
@[simp] theorem jg:fy .undef=true:=rfl
@[simp] theorem lu(v:Value):fy (.lit v)=true:=rfl
@[simp] theorem z8xa(id e o n c:Nat):fy (.bv id e o n c)=true:=rfl
theorem ZE(l:List UInt8):(∀c∈bys l,fy c=true)=True:=eq_true λc hc=>by obtain⟨x,_,rfl⟩:=List.mem_map.1 hc;rfl
@[simp] theorem NH:∀l:List Bool,aj (bos l)=true
 |[]=>rfl
 |x::l=>by show(aC (bo x)&&aj (bos l))=true;rw[NH l];rfl
end Go.Abs