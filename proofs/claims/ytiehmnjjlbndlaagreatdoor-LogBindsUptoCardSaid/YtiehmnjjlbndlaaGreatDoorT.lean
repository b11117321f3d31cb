/- Lemmas. -/
import Derived.Test.YtiehmnjjlbndlaaGreatDoorS
set_option linter.all false
namespace Go.Abs
set_option maxRecDepth 100000
def xJ:List af:=
 [Yf 7 0 2,Yl 8 2 7,Yf 9 0 3,Yl 10 3 9,Yb 11 .neq 8 10,Ym 12 11]
def xO:List af:=
 [Yg 12 (Yf 13 1 2),Yg 12 (Yl 14 2 13),Yg 12 (Yf 15 1 3),Yg 12 (Yl 16 3 15),Yg 12 (Yb 17 .neq 14 16),YP 18 12 17,Ym 19 18]
def xV:List af:=
 [Yg 19 (Yf 20 2 2),Yg 19 (Yl 21 2 20),Yg 19 (Yf 22 2 3),Yg 19 (Yl 23 3 22),Yg 19 (Yb 24 .neq 21 23),YP 25 19 24,Ym 26 25]
def ya:List af:=
 [Yg 26 (Yf 27 3 2),Yg 26 (Yl 28 2 27),Yg 26 (Yf 29 3 3),Yg 26 (Yl 30 3 29),Yg 26 (Yb 31 .neq 28 30),YP 32 26 31,Ym 33 32]
def xR:List af:=
 [Yg 33 (Yf 34 12 2),Yg 33 (YL 35 16 2 34),Yg 33 (Yf 36 12 3),Yg 33 (YL 37 16 3 36),Yg 33 (Yo 38 (.eqF (ks8 16) true (.s 35) (.s 37))),YP 39 33 38,Ym 40 39]
def xP:List af:=
 [Yg 40 (Yf 41 28 2),Yg 40 (Yl 42 2 41),Yg 40 (Yn 43 42),Yg 40 (Yf 44 28 3),Yg 40 (Yl 45 3 44),Yg 40 (Yn 46 45),Yg 40 (Yb 47 .neq 43 46),YP 48 40 47,Ym 49 48]
def ux:List af:=
 [Yg 49 (Yf 50 29 2),Yg 49 (Yl 51 2 50),Yg 49 (Yn 52 51),Yg 49 (Yf 53 29 3),Yg 49 (Yl 54 3 53),Yg 49 (Yn 55 54),Yg 49 (Yb 56 .neq 52 55),YP 57 49 56]
def uy:av:=
 Yq (.block 1 (YR [2,3,5,75] [.norm [2,3]] [Yf 65 28 2,Yl 66 2 65,Ym 67 5,Yi 68 24 66 67,YJ 69 24 68,Yf 70 28 3,Yl 71 3 70,Ym 72 5,Yi 73 24 71 72,YJ 74 24 73,Yo 75 (.eqF kM true (.s 69) (.s 74))] (Yd 75 (Yr [4] [Yw 4 false] .ret) (Yy [2,3,5])))) (Yu [2,3,5] [Ym 63 5,YB 64 .add 63 1,Ym 5 64])
def sI:av:=
 Yq (YR [2,3,5,62] [.norm [2,3]] [Ym 58 5,Yf 59 28 2,Yl 60 2 59,Yn 61 60,Yb 62 .lss 58 61] (Yd 62 (Yy [2,3,5]) (YY [2,3]))) uy
def uw:av:=
 Yq (.block 3 (YR [2,3,6,93] [.norm [2,3]] [Yf 83 29 2,Yl 84 2 83,Ym 85 6,Yi 86 1 84 85,Yj 87 86,Yf 88 29 3,Yl 89 3 88,Ym 90 6,Yi 91 1 89 90,Yj 92 91,Yb 93 .neq 87 92] (Yd 93 (Yr [4] [Yw 4 false] .ret) (Yy [2,3,6])))) (Yu [2,3,6] [Ym 81 6,YB 82 .add 81 1,Ym 6 82])
def sJ:av:=
 Yq (YR [2,3,6,80] [.norm [2,3]] [Ym 76 6,Yf 77 29 2,Yl 78 2 77,Yn 79 78,Yb 80 .lss 76 79] (Yd 80 (Yy [2,3,6]) (.ghost (.keep [2,3]) (.exit 2)))) uw
def xM:av:=
 YR [4] [.norm [2,3]] [Yf 94 4 2,YL 95 8 2 94,Yf 96 4 3,YL 97 8 3 96,YK 98 149 95 97,Ym 4 98] .ret
def xQ:av:=
 Yq (Yr [2,3,6] [Yc 6 0] (.block 2 (.loop sJ))) xM
def xW:av:=
 Yq (Yr [2,3,5] [Yc 5 0] (.block 0 (.loop sI))) xQ
def qO:nH:=
 {n:=2,wr:=[],res:=[.t 4],body:=YR [2,3] [.norm [2,3]] [Yx 2 2 30 0,Yx 3 3 30 1,Yw 4 false] (Yq (YR [2,3,57] [.norm [2,3]] (xJ++xO++xV++ya++xR++xP++ux) (Yd 57 (Yr [4] [Yw 4 false] .ret) (Yy [2,3]))) xW)}
def tY:av:=
 Yd 5 (.region [1,2] [.norm [1,2]] [Yf 14 6 1,YO (.store none 1 false (.s 14) (.c (st [])))]) (Yy [1,2])
def ud:av:=
 YR [2] [.norm [1,2]] [YL 15 8 1 1,Ys 8 2 2 15] .ret
def qt:nH:=
 {n:=1,wr:=[],res:=[.cell 2 (some 8) 2],body:=YR [1,2] [.norm [1,2]] [Yx 1 1 8 0,Yo 2 (.alloc 2 (List.replicate 6 (i64 0)++[st []]++[.sl .plain none 0 []]))] (Yq (YR [1,2,4] [.norm [1,2]] [Yf 3 0 1,Yl 4 1 3] (.block 0 (Yq (Yr [1,2,4,5] [YB 6 .eql 4 2,Ym 5 6] (Yd 5 (Yy [1,2,5]) (Yr [1,2,4,5] [YB 7 .eql 4 4,Ym 5 7] (Yd 5 (Yy [1,2,5]) (Yr [1,2,4,5] [YB 8 .eql 4 5,Ym 5 8] (Yd 5 (Yy [1,2,5]) (Yr [1,2,4,5] [YB 9 .eql 4 6,Ym 5 9] (Yd 5 (Yy [1,2,5]) (Yr [1,2,4,5] [YB 10 .eql 4 8,Ym 5 10] (Yd 5 (Yy [1,2,5]) (Yr [1,2,4,5] [YB 11 .eql 4 10,Ym 5 11] (Yd 5 (Yy [1,2,5]) (Yr [1,2,4,5] [YB 12 .eql 4 15,Ym 5 12] (Yd 5 (Yy [1,2,5]) (Yu [1,2,5] [YB 13 .eql 4 19,Ym 5 13]))))))))))))))) tY))) ud)}
def wO:List af:=
 [Yf 7 0 1,Yl 8 1 7,YB 9 .lss 8 0,Ym 10 9]
def wZ:List af:=
 [Yg 10 (Yf 11 0 1),Yg 10 (Yl 12 1 11),Yg 10 (YB 13 .gtr 12 1099511627776),YP 14 10 13,Ym 15 14]
def wP:List af:=
 [Yg 15 (Yf 16 2 1),Yg 15 (Yl 17 1 16),Yg 15 (YB 18 .lss 17 0),YP 19 15 18,Ym 20 19]
def xj:List af:=
 [Yg 20 (Yf 21 2 1),Yg 20 (Yl 22 1 21),Yg 20 (YB 23 .gtr 22 2147483647),YP 24 20 23,Ym 25 24]
def wS:List af:=
 [Yg 25 (Yf 26 3 1),Yg 25 (Yl 27 1 26),Yg 25 (YB 28 .lss 27 1),YP 29 25 28,Ym 30 29]
def xD:List af:=
 [Yg 30 (Yf 31 3 1),Yg 30 (Yl 32 1 31),Yg 30 (YB 33 .gtr 32 5),YP 34 30 33,Ym 35 34]
def xl:List af:=
 [Yg 35 (Yf 36 28 1),Yg 35 (Yl 37 1 36),Yg 35 (Yn 38 37),Yg 35 (YB 39 .gtr 38 4096),YP 40 35 39,Ym 41 40]
def t8:List af:=
 [Yg 41 (Yf 42 29 1),Yg 41 (Yl 43 1 42),Yg 41 (Yn 44 43),Yg 41 (YB 45 .gtr 44 4096),YP 46 41 45]
def xv:List af:=
 [Yf 59 0 4,Yl 60 4 59,YB 61 .lss 60 1,Ym 62 61]
def w8:List af:=
 [Yg 62 (Yf 63 0 4),Yg 62 (Yl 64 4 63),Yg 62 (YB 65 .gtr 64 2147483647),YP 66 62 65,Ym 67 66]
def wg:List af:=
 [Yg 67 (Yf 68 5 4),Yg 67 (Yl 69 4 68),Yg 67 (YB 70 .lss 69 1),YP 71 67 70,Ym 72 71]
def wc:List af:=
 [Yg 72 (Yf 73 5 4),Yg 72 (Yl 74 4 73),Yg 72 (YB 75 .gtr 74 2147483647),YP 76 72 75,Ym 77 76]
def wj:List af:=
 [Yg 77 (Yf 78 6 4),Yg 77 (Yl 79 4 78),Yg 77 (YB 80 .lss 79 0),YP 81 77 80,Ym 82 81]
def ww:List af:=
 [Yg 82 (Yf 83 6 4),Yg 82 (Yl 84 4 83),Yg 82 (YB 85 .gtr 84 2147483647),YP 86 82 85,Ym 87 86]
def wu:List af:=
 [Yg 87 (Yf 88 1 4),Yg 87 (Yl 89 4 88),Yg 87 (YB 90 .lss 89 0),YP 91 87 90,Ym 92 91]
def wl:List af:=
 [Yg 92 (Yf 93 1 4),Yg 92 (Yl 94 4 93),Yg 92 (YB 95 .gtr 94 31),YP 96 92 95,Ym 97 96]
def v8:List af:=
 [Yg 97 (Yf 98 2 4),Yg 97 (Yl 99 4 98),Yg 97 (YB 100 .and 99 956),Yg 97 (Yf 101 2 4),Yg 97 (Yl 102 4 101),Yg 97 (Yb 103 .neq 100 102),YP 104 97 103,Ym 105 104]
def v6:List af:=
 [Yg 105 (Yf 106 3 4),Yg 105 (Yl 107 4 106),Yg 105 (YB 108 .lss 107 0),YP 109 105 108,Ym 110 109]
def wa:List af:=
 [Yg 110 (Yf 111 4 4),Yg 110 (Yl 112 4 111),Yg 110 (Yf 113 3 4),Yg 110 (Yl 114 4 113),Yg 110 (Yb 115 .lss 112 114),YP 116 110 115,Ym 117 116]
def tD:List af:=
 [Yg 117 (Yf 118 4 4),Yg 117 (Yl 119 4 118),Yg 117 (YB 120 .gtr 119 1099511627776),YP 121 117 120]
def wQ:av:=
 Yq (.block 1 (YR [1,3,4] [.norm [1,4]] [Yf 54 28 1,Yl 55 1 54,Ym 56 3,Yi 57 24 55 56,YJ 58 24 57,Yo 4 (.alloc 4 (List.replicate 7 (i64 0)++[bo false]++bys (bF 16))),Ys 24 4 4 58] (YR [1,3,121] [.norm [1,4]] (xv++w8++wg++wc++wj++ww++wu++wl++v8++v6++wa++tD) (Yd 121 (Yr [2] [Yw 2 false] .ret) (Yy [1,3]))))) (.region [1,3] [.drop [4]] [Ym 52 3,YB 53 .add 52 1,Ym 3 53])
def tT:av:=
 Yq (YR [1,3,51] [.norm [1]] [Ym 47 3,Yf 48 28 1,Yl 49 1 48,Yn 50 49,Yb 51 .lss 47 50] (Yd 51 (Yy [1,3]) (YY [1]))) wQ
def vX:List af:=
 [Yf 129 2 1,Yl 130 1 129,YB 131 .eql 130 0,Ym 132 131]
def vZ:List af:=
 [YG 132 (Ym 133 5),Yp 134 132 133,Ym 135 134]
def wz:List af:=
 [YG 135 (Yf 136 12 1),YG 135 (YL 137 16 1 136),YG 135 (Yo 138 (.build (bys (bF 16)) [])),YG 135 (Yo 139 (.eqF (ks8 16) false (.s 137) (.s 138))),Yp 140 135 139,Ym 141 140]
def wD:List af:=
 [YG 141 (Yf 142 28 1),YG 141 (Yl 143 1 142),YG 141 (Yn 144 143),YG 141 (YB 145 .eql 144 0),Yp 146 141 145,Ym 147 146]
def tj:List af:=
 [YG 147 (Yf 148 29 1),YG 147 (Yl 149 1 148),YG 147 (Yn 150 149),YG 147 (YB 151 .eql 150 0),Yp 152 147 151,Ym 2 152]
def vW:List af:=
 [Yf 159 1 1,Yl 160 1 159,YB 161 .geq 160 1,Ym 162 161]
def vV:List af:=
 [YG 162 (Yf 163 1 1),YG 162 (Yl 164 1 163),YG 162 (YB 165 .leq 164 27),Yp 166 162 165,Ym 167 166]
def wo:List af:=
 [YG 167 (Yf 168 4 1),YG 167 (Yf 169 0 168),YG 167 (Yl 170 1 169),YG 167 (Yf 171 1 1),YG 167 (Yl 172 1 171),YG 167 (Yb 173 .eql 170 172),Yp 174 167 173,Ym 175 174]
def we:List af:=
 [YG 175 (Ym 176 6),Yp 177 175 176,Ym 2 177]
def wR:av:=
 YR [1,6] [.norm [1,4]] [Yf 153 4 1,YL 154 8 1 153,Yf 155 4 1,YL 156 8 1 155,Yk 157 327 156,YK 158 149 154 157,Ym 6 158] (YR [2] [.norm [1,4]] (vW++vV++wo++we) .ret)
def t0:av:=
 Yq (YR [1,124] [.norm [1,4]] [Yf 122 1 1,Yl 123 1 122,YB 124 .eql 123 0] (Yd 124 (YR [1,5] [.norm [1,4]] [Yf 125 4 1,YL 126 8 1 125,Yo 127 (.build [i64 0,i64 0,i64 0,i64 0,i64 0,i64 0,st [],.sl .plain none 0 []] []),YK 128 149 126 127,Ym 5 128] (YR [2] [.norm [1,4]] (vX++vZ++wz++wD++tj) .ret)) (Yy [1]))) wR
def wU:av:=
 Yq (Yr [1,3] [Yc 3 0] (.block 0 (.loop tT))) t0
def rh:nH:=
 {n:=1,wr:=[],res:=[.t 2],body:=YR [1] [.norm [1]] [Yx 1 1 30 0,Yw 2 false] (Yq (YR [1,46] [.norm [1]] (wO++wZ++wP++xj++wS++xD++xl++t8) (Yd 46 (Yr [2] [Yw 2 false] .ret) (Yy [1]))) wU)}
def wb:av:=
 Yq (.block 1 (.region [1,3,4] [.norm [1]] [Ym 40 3,Yf 41 28 1,Yl 42 1 41,Ym 43 4,Yi 44 24 42 43,YJ 45 24 44,Yk 46 332 45,Yk 47 40 46,Yo 48 (.toStr none (.s 47)),Yb 49 .add 40 48,Yf 50 28 1,Yl 51 1 50,Ym 52 4,Yi 53 24 51 52,Yf 54 8 53,YJ 55 16 54,Yk 56 23 55,Yb 57 .add 49 56,Ym 3 57])) (Yu [1,3,4] [Ym 38 4,YB 39 .add 38 1,Ym 4 39])
def tw:av:=
 Yq (YR [1,3,4,37] [.norm [1]] [Ym 33 4,Yf 34 28 1,Yl 35 1 34,Yn 36 35,Yb 37 .lss 33 36] (Yd 37 (Yy [1,3,4]) (YY [1,3]))) wb
def wy:av:=
 YR [2] [.norm [1]] [Ym 58 3,Yf 59 29 1,Yl 60 1 59,Yk 61 40 60,Yo 62 (.toStr none (.s 61)),Yb 63 .add 58 62,Ym 2 63] .ret
def qj:nH:=
 {n:=1,wr:=[],res:=[.t 2],body:=YR [1] [.norm [1]] [Yx 1 1 30 0,Yo 2 (.mv false (.c (st [])))] (YR [1,3] [.norm [1]] [Yf 5 0 1,Yl 6 1 5,Yf 7 1 1,Yl 8 1 7,Yf 9 2 1,Yl 10 1 9,Yf 11 3 1,Yl 12 1 11,Yo 13 (.buildSl 1 4 [i64 0,i64 0,i64 0,i64 0] [(0,1,.s 6),(1,1,.s 8),(2,1,.s 10),(3,1,.s 12)]),Yk 14 40 13,Yo 15 (.toStr none (.s 14)),Yf 16 4 1,YL 17 8 1 16,Yk 18 147 17,Yo 19 (.toStr none (.s 18)),Yk 20 29 19,Yo 21 (.toStr none (.s 20)),Yb 22 .add 15 21,Yf 23 12 1,YL 24 16 1 23,Yk 25 23 24,Yb 26 .add 22 25,Yf 27 28 1,Yl 28 1 27,Yn 29 28,Yk 30 30 29,Yo 31 (.toStr none (.s 30)),Yb 32 .add 26 31,Ym 3 32] (Yq (Yr [1,3,4] [Yc 4 0] (.block 0 (.loop tw))) wy))}
def qh:nH:=
 {n:=1,wr:=[],res:=[.cell 2 (some 16) 2],body:=YR [1,2] [.norm [1,2]] [Yx 1 1 30 0,Yz 2 2 16] (YR [2] [.norm [1,2]] [YL 3 30 1 1,Yk 4 333 3,Yo 5 (.buildSl 1 1 [st []] [(0,1,.s 4)]),Yo 6 (.call 20 [.c (i64 8),.s 5] []),Ys 16 2 2 6] .ret)}
def s7:av:=
 YR [2] [.norm [1]] [Yf 6 0 1,Yl 7 1 6,Yf 8 1 1,Yl 9 1 8,Yf 10 2 1,Yl 11 1 10,Yf 12 3 1,Yl 13 1 12,Yf 14 4 1,Yl 15 1 14,Yf 16 5 1,Yl 17 1 16,Yf 18 6 1,Yl 19 1 18,Ym 20 3,Yo 21 (.buildSl 1 8 [i64 0,i64 0,i64 0,i64 0,i64 0,i64 0,i64 0,i64 0] [(0,1,.s 7),(1,1,.s 9),(2,1,.s 11),(3,1,.s 13),(4,1,.s 15),(5,1,.s 17),(6,1,.s 19),(7,1,.s 20)]),YM 2 21] .ret
def pJ:nH:=
 {n:=1,wr:=[],res:=[.t 2],body:=YR [1] [.norm [1]] [Yx 1 1 24 0,Yv 2 1] (Yr [1,3] [Yc 3 0] (Yq (YR [1,3,5] [.norm [1]] [Yf 4 7 1,Yl 5 1 4] (Yd 5 (Yu [1,3] [Yc 3 1]) (Yy [1,3]))) s7))}
theorem M3{α:Type}{a b:List α}{i:Nat}(h1:i<a.length)(h2:i<b.length)(he:a.take i=b.take i)(h:a[i]=b[i]):a.take (i+1)=b.take (i+1):=by rw[List.take_succ_eq_append_getElem h1,List.take_succ_eq_append_getElem h2,he,h]
theorem LO{α:Type}{a b:List α}(h:a.length=b.length)(he:a.take a.length=b.take a.length):a=b:=by rw[List.take_length,h,List.take_length] at he;exact he
set_option maxHeartbeats 16000000 in
theorem z0a(E:Env)(h149:E.G 149=BQ):∀ds,Ih.pre ds->ds.length=qO.n∧awp E qO.body (qH qO.res (Ih.post ds)) (fP qO.wr ds):=by
 rintro _ ⟨nc,nm,ng,nc',nm',ng',x,y,hx,hy,rfl⟩;rw[GH hx hy];have hd:=hx.1.2.2.2.2.2.1;have hd':=hy.1.2.2.2.2.2.1;have hl:=uD (nc:=nc) (nm:=nm) (ng:=ng) hd;have hl':=uD (nc:=nc') (nm:=nm') (ng:=ng') hd';have e28:=Gy (nc:=nc) (nm:=nm) (ng:=ng) hd;have e29:=Gu (nc:=nc) (nm:=nm) (ng:=ng) hd;have e28':=Gy (nc:=nc') (nm:=nm') (ng:=ng') hd';have e29':=Gu (nc:=nc') (nm:=nm') (ng:=ng') hd';have hg:=FC (nc:=nc) (nm:=nm) (ng:=ng) hd;have hg':=FC (nc:=nc') (nm:=nm') (ng:=ng') hd';have h16:=hx.1.2.2.2.2.2.2.1;have h16':=hy.1.2.2.2.2.2.2.1;have hlen:=wW (sh h16);have hlen':=wW (sh h16');have hml:=hx.2.2.1;have hgl:=hx.2.2.2;have eqd:=vR hd hd';have hp3:=GC (nl:=nc) (nl':=nc') hx.2.1 hy.2.1;have hq3:=AB x.cmd y.cmd nc nc';obtain⟨Z,hZ⟩:∃Z,Z=vH x y:=⟨_,rfl⟩;rw[<-hZ];have hzn:x≠y->Z=false:=λh=>by
  cases hc:vH x y
  ·rw[hZ,hc]
  exact absurd ((Gl x y).1 hc) h
 refine⟨rfl,?_⟩;simp only[qO];refine oI λQ9 hQ9=> ?_;refine yK λB hB=> ?_;simp(maxSteps:=999999) (disch:=first|omega|simp<;>omega|rfl) [fJ,oG,oF,hl,hl'];rw[hB];clear hB;rw[qg];refine oI λQ1 hQ1=> ?_;rw[qg];refine oI λQ2 hQ2=> ?_;rw[ji];refine o0 λT hT=> ?_;simp(maxSteps:=999999) (disch:=first|omega|simp<;>omega|rfl) [fJ,oG,oF,xJ,hl,hl',e28,e29,e28',e29',hg,hg',eqd,hd,hd'];by_cases b1:x.time=y.time
 rotate_left
 ·refine oU true 12 57 (by simp[b1]) (by rw[hT];kernel_rfl) (by rw[hT];kernel_rfl) ?_;have hz:Z=false:=hzn (λe=>by rw[e] at b1;exact b1 rfl);simp(maxSteps:=999999) (disch:=first|omega|simp<;>omega|rfl) [fJ,oG,oF,hQ2,hQ1,hQ9,kT,hz]
 rw[hT];clear hT;refine o0 λT hT=> ?_;simp(maxSteps:=999999) (disch:=first|omega|simp<;>omega|rfl) [fJ,oG,oF,xO,hl,hl',e28,e29,e28',e29',hg,hg',eqd,hd,hd',b1];by_cases b2:x.kind=y.kind
 rotate_left
 ·refine oU true 19 57 (by simp[b2]) (by rw[hT];kernel_rfl) (by rw[hT];kernel_rfl) ?_;have hz:Z=false:=hzn (λe=>by rw[e] at b2;exact b2 rfl);simp(maxSteps:=999999) (disch:=first|omega|simp<;>omega|rfl) [fJ,oG,oF,hQ2,hQ1,hQ9,kT,hz]
 rw[hT];clear hT;refine o0 λT hT=> ?_;simp(maxSteps:=999999) (disch:=first|omega|simp<;>omega|rfl) [fJ,oG,oF,xV,hl,hl',e28,e29,e28',e29',hg,hg',eqd,hd,hd',b1,b2];by_cases b3:x.req=y.req
 rotate_left
 ·refine oU true 26 57 (by simp[b3]) (by rw[hT];kernel_rfl) (by rw[hT];kernel_rfl) ?_;have hz:Z=false:=hzn (λe=>by rw[e] at b3;exact b3 rfl);simp(maxSteps:=999999) (disch:=first|omega|simp<;>omega|rfl) [fJ,oG,oF,hQ2,hQ1,hQ9,kT,hz]
 rw[hT];clear hT;refine o0 λT hT=> ?_;simp(maxSteps:=999999) (disch:=first|omega|simp<;>omega|rfl) [fJ,oG,oF,ya,hl,hl',e28,e29,e28',e29',hg,hg',eqd,hd,hd',b1,b2,b3];by_cases b4:x.mode=y.mode
 rotate_left
 ·refine oU true 33 57 (by simp[b4]) (by rw[hT];kernel_rfl) (by rw[hT];kernel_rfl) ?_;have hz:Z=false:=hzn (λe=>by rw[e] at b4;exact b4 rfl);simp(maxSteps:=999999) (disch:=first|omega|simp<;>omega|rfl) [fJ,oG,oF,hQ2,hQ1,hQ9,kT,hz]
 rw[hT];clear hT;refine o0 λT hT=> ?_;simp(maxSteps:=999999) (disch:=first|omega|simp<;>omega|rfl) [fJ,oG,oF,xR,hl,hl',e28,e29,e28',e29',hg,hg',eqd,hd,hd',b1,b2,b3,b4];by_cases b5:x.dig=y.dig
 rotate_left
 ·refine oU true 40 57 (by simp[b5]) (by rw[hT];kernel_rfl) (by rw[hT];kernel_rfl) ?_;have hz:Z=false:=hzn (λe=>by rw[e] at b5;exact b5 rfl);simp(maxSteps:=999999) (disch:=first|omega|simp<;>omega|rfl) [fJ,oG,oF,hQ2,hQ1,hQ9,kT,hz]
 rw[hT];clear hT;refine o0 λT hT=> ?_;simp(maxSteps:=999999) (disch:=first|omega|simp<;>omega|rfl) [fJ,oG,oF,xP,hl,hl',e28,e29,e28',e29',hg,hg',eqd,hd,hd',b1,b2,b3,b4,b5];by_cases b6:(x.made.length:Int)=y.made.length
 rotate_left
 ·refine oU true 49 57 (by simp[b6]) (by rw[hT];kernel_rfl) (by rw[hT];kernel_rfl) ?_;have hz:Z=false:=hzn (λe=>by rw[e] at b6;exact b6 rfl);simp(maxSteps:=999999) (disch:=first|omega|simp<;>omega|rfl) [fJ,oG,oF,hQ2,hQ1,hQ9,kT,hz]
 rw[hT];clear hT;by_cases b7:(x.gone.length:Int)=y.gone.length
 rotate_left
 ·have hz:Z=false:=hzn (λe=>by rw[e] at b7;exact b7 rfl);simp(maxSteps:=999999) (disch:=first|omega|simp<;>omega|rfl) [fJ,oG,oF,hQ2,hQ1,hQ9,kT,hz,ux,hl,hl',e28,e29,e28',e29',hg,hg',eqd,hd,hd',b1,b2,b3,b4,b5,b6,b7]
 simp(maxSteps:=999999) (disch:=first|omega|simp<;>omega|rfl) [fJ,oG,oF,ux,hl,hl',e28,e29,e28',e29',hg,hg',eqd,hd,hd',b1,b2,b3,b4,b5,b6,b7,hQ2,hQ1,kF];simp(maxSteps:=999999) (disch:=first|omega|simp<;>omega|rfl) [fJ,oG,oF,xW];refine oI λQ3 hQ3=> ?_;refine dH (λi:Nat=>⟨[(0,.agg (qf nc nm ng x)),(1,.agg (qf nc' nm' ng' y))],[(2,.bp 2 0),(3,.bp 3 0),(5,i64 i)],[(2,some (qf nc nm ng x)),(3,some (qf nc' nm' ng' y))]⟩)
  (λi=>x.made.length-i) (λi=>i<=x.made.length∧x.made.take i=y.made.take i) 0 (by simp) (by simp) λi hi=> ?_
 obtain⟨hi,he⟩:=hi;refine oI λQ4 hQ4=> ?_;by_cases h1:i<x.made.length
 ·have h3:i<y.made.length:=by omega
  have a1:=Jw h16 h1;have a2:=Jw h16' h3;have l1:24<=x.made.length*24-i*24:=by omega
  have l2:24<=y.made.length*24-i*24:=by omega
  have l3:i*24<=x.made.length*24:=by omega
  have l4:i*24<=y.made.length*24:=by omega
  have d1:=(h16 _ (Jf h1)).2.2.2.2.2.2.2;have d2:=(h16' _ (Jf h3)).2.2.2.2.2.2.2;have hq:=eqM d1 d2;have ho1:=z7qa d1;have ho2:=z7qa d2;by_cases h2:atM x.made i=atM y.made i
  ·have h2':x.made[i]=y.made[i]:=by rw[<-Da h1,<-Da h3,h2]
   rw[<-h2] at a2 ho2 hq;simp only[decide_true] at hq;simp(maxSteps:=999999) (disch:=first|omega|simp<;>omega|rfl) [fJ,oG,oF,sI,uy,kT,kF,dT,dF,h1,h3,e28,e28',hl,hl',hlen,hlen',a1,a2,l1,l2,l3,l4,hq,ho1,hQ4];exact⟨i+1,by omega,⟨by omega,M3 h1 h3 he h2'⟩,by omega⟩
  have hz:Z=false:=hzn (λe=>h2 (by rw[e]));have hq':dk kM (uK (atM x.made i)) (uK (atM y.made i))=false:=by rw[hq];simpa using h2
  simp(maxSteps:=999999) (disch:=first|omega|simp<;>omega|rfl) [fJ,oG,oF,sI,uy,kT,kF,dT,dF,h1,h3,e28,e28',hl,hl',hlen,hlen',a1,a2,l1,l2,l3,l4,hq',ho1,ho2,hQ4,hQ3,hQ9,hz]
 have hie:i=x.made.length:=by omega
 rw[hie] at he;have hmade:x.made=y.made:=LO (by omega) he;simp(maxSteps:=999999) (disch:=first|omega|simp<;>omega|rfl) [fJ,oG,oF,sI,kT,kF,dT,dF,h1,e28,hl,hQ4,hQ3,xQ];refine oI λQ5 hQ5=> ?_;refine dH (λi:Nat=>⟨[(0,.agg (qf nc nm ng x)),(1,.agg (qf nc' nm' ng' y))],[(2,.bp 2 0),(3,.bp 3 0),(6,i64 i)],[(2,some (qf nc nm ng x)),(3,some (qf nc' nm' ng' y))]⟩)
  (λi=>x.gone.length-i) (λi=>i<=x.gone.length∧x.gone.take i=y.gone.take i) 0 (by simp) (by simp) λj hj=> ?_
 obtain⟨hj,hf⟩:=hj;refine oI λQ6 hQ6=> ?_;by_cases g1:j<x.gone.length
 ·have g3:j<y.gone.length:=by omega
  by_cases g2:atI x.gone j=atI y.gone j
  ·have g2':x.gone[j]=y.gone[j]:=by simpa[atI,List.getD,List.getElem?_eq_getElem g1,List.getElem?_eq_getElem g3] using g2
   simp(maxSteps:=999999) (disch:=first|omega|simp<;>omega|rfl) [fJ,oG,oF,sJ,uw,kT,kF,dT,dF,B6,g1,g3,g2,e29,e29',hl,hl',hQ6];exact⟨by omega,by omega,j+1,by omega,⟨by omega,M3 g1 g3 hf g2'⟩,by omega⟩
  have hz:Z=false:=hzn (λe=>g2 (by rw[e]));simp(maxSteps:=999999) (disch:=first|omega|simp<;>omega|rfl) [fJ,oG,oF,sJ,uw,kT,kF,dT,dF,B6,g1,g3,g2,e29,e29',hl,hl',hQ6,hQ5,hQ9,hz];exact⟨by omega,by omega⟩
 have hje:j=x.gone.length:=by omega
 rw[hje] at hf;have hgone:x.gone=y.gone:=LO (by omega) hf;have hz:Z=Gk x.cmd y.cmd:=by rw[hZ];simp[vH,b1,b2,b3,b4,b5,hmade,hgone]
 simp(maxSteps:=999999) (disch:=first|omega|simp<;>omega|rfl) [fJ,oG,oF,sJ,kT,kF,dT,dF,g1,e29,hl,hQ6,hQ5,xM,hl',h149,hp3,hq3,hQ9,hz]
end Go.Abs