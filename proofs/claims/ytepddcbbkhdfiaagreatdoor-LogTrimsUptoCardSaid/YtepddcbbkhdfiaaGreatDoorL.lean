/- Lemmas: an abstract interpreter, and what the functions compute. -/
import Derived.Test.YtepddcbbkhdfiaaGreatDoorI
import Derived.Test.YtepddcbbkhdfiaaGreatDoorK
import Derived.Test.YtepddcbbkhdfiaaGreatDoorH
set_option linter.unusedSimpArgs false
set_option linter.unusedVariables false
set_option linter.unusedSectionVars false
section
namespace Go.Abs
set_option maxRecDepth 100000
def z0Ja:z1ka:=
 {n:=2,wr:=[],res:=[.cell 4 (some 30) 4],body:=YR [4] [.norm [4]] [Yo 4 (.alloc 4 (List.replicate 10 (i64 0)++[st []]++[.sl .plain none 0 []]++bys (z5j 16)++[.sl (.own 24) none 0 []]++[.sl (.own 1) none 0 []]))] (YR [4] [.norm [4]] [Ym 5 0,Ym 6 1,Yo 7 (.build (List.replicate 10 (i64 0)++[st []]++[.sl .plain none 0 []]++bys (z5j 16)++[.sl .plain none 0 []]++[.sl .plain none 0 []]) [(0,1,.s 5),(3,1,.s 6)]),Ys 30 4 4 7] .ret)}
def z8lb:List z6a:=
 [Yf 4 0 1,Yl 5 1 4,Yo 6 (.call 295 [.s 5,.c (i64 0),.c (i64 1099511627776)] []),Yo 7 (.un .not (.s 6)),Ym 8 7]
def z3mb:List z6a:=
 [Yg 8 (Yf 9 2 1),Yg 8 (Yl 10 1 9),Yg 8 (Yo 11 (.call 295 [.s 10,.c (i64 0),.c (i64 2147483647)] [])),Yg 8 (Yo 12 (.un .not (.s 11))),YP 13 8 12,Ym 14 13]
def z2mb:List z6a:=
 [Yg 14 (Yf 15 3 1),Yg 14 (Yl 16 1 15),Yg 14 (Yo 17 (.call 295 [.s 16,.c (i64 1),.c (i64 5)] [])),Yg 14 (Yo 18 (.un .not (.s 17))),YP 19 14 18,Ym 20 19]
def z9lb:List z6a:=
 [Yg 20 (Yf 21 28 1),Yg 20 (Yl 22 1 21),Yg 20 (Yn 23 22),Yg 20 (YB 24 .gtr 23 4096),YP 25 20 24,Ym 26 25]
def z50a:List z6a:=
 [Yg 26 (Yf 27 29 1),Yg 26 (Yl 28 1 27),Yg 26 (Yn 29 28),Yg 26 (YB 30 .gtr 29 4096),YP 31 26 30]
def z70a:List z6a:=
 [Yf 46 1 1,Yl 47 1 46,Yo 48 (.call 295 [.s 47,.c (i64 1),.c (i64 27)] []),Ym 49 48]
def z2La:List z6a:=
 [YG 49 (Yf 50 4 1),YG 49 (Yf 51 0 50),YG 49 (Yl 52 1 51),YG 49 (Yf 53 1 1),YG 49 (Yl 54 1 53),YG 49 (Yb 55 .eql 52 54),Yp 56 49 55,Ym 57 56]
def z3Ga:List z6a:=
 [YG 57 (Yf 58 1 1),YG 57 (Yl 59 1 58),YG 57 (Yk 60 293 59),YG 57 (Yo 61 (.un .not (.s 60))),YG 57 (Ym 62 61),Yg 62 (Yf 63 4 1),Yg 62 (Yf 64 6 63),Yg 62 (Yl 65 1 64),Yg 62 (Yo 66 (.bin .eql (.s 65) (.c (st [])))),YG 57 (YP 67 62 66),Yp 68 57 67,Ym 2 68]
def z6mb:z1c:=
 YR [2] [.norm [1,3]] (z70a++z2La++z3Ga) .ret
def z6Za:z1c:=
 Yq (YR [1,38] [.norm [1,3]] [Yf 36 1 1,Yl 37 1 36,YB 38 .eql 37 0] (Yd 38 (YR [2] [.norm [1,3]] [YL 39 30 1 1,Yf 40 0 1,Yl 41 1 40,Yf 42 3 1,Yl 43 1 42,YK 44 294 41 43,YK 45 299 39 44,Ym 2 45] .ret) (Yy [1]))) z6mb
def z4La:z1c:=
 YR [1,3] [.norm [1,3]] [Yo 3 (.alloc 3 [.lit .nilFunc]),YO (.store none 3 false (.s 3) (.c (.fn 296 [] [])))] (Yq (YR [1,35] [.norm [1,3]] [Yf 32 28 1,Yl 33 1 32,Yo 34 (.mkfn 297 [] [.s 3]),Yo 35 (.call 298 [.s 33,.s 34] [3])] (Yd 35 (Yr [2] [Yw 2 false] .ret) (Yy [1]))) z6Za)
def z1Fa:z1ka:=
 {n:=1,wr:=[],res:=[.t 2],body:=YR [1] [.norm [1]] [Yx 1 1 30 0,Yw 2 false] (Yq (YR [1,31] [.norm [1]] (z8lb++z3mb++z2mb++z9lb++z50a) (Yd 31 (Yr [2] [Yw 2 false] .ret) (Yy [1]))) z4La)}
def z2ob:List z6a:=
 [Yf 5 0 2,Yl 6 2 5,Yf 7 0 3,Yl 8 3 7,Yb 9 .eql 6 8,Ym 10 9]
def z5qb:List z6a:=
 [YG 10 (Yf 11 1 2),YG 10 (Yl 12 2 11),YG 10 (Yf 13 1 3),YG 10 (Yl 14 3 13),YG 10 (Yb 15 .eql 12 14),Yp 16 10 15,Ym 17 16]
def z7sb:List z6a:=
 [YG 17 (Yf 18 2 2),YG 17 (Yl 19 2 18),YG 17 (Yf 20 2 3),YG 17 (Yl 21 3 20),YG 17 (Yb 22 .eql 19 21),Yp 23 17 22,Ym 24 23]
def z6pb:List z6a:=
 [YG 24 (Yf 25 3 2),YG 24 (Yl 26 2 25),YG 24 (Yf 27 3 3),YG 24 (Yl 28 3 27),YG 24 (Yb 29 .eql 26 28),Yp 30 24 29,Ym 31 30]
def z4rb:List z6a:=
 [YG 31 (Yf 32 12 2),YG 31 (YL 33 16 2 32),YG 31 (Yf 34 12 3),YG 31 (YL 35 16 3 34),YG 31 (Yo 36 (.eqF (ks8 16) false (.s 33) (.s 35))),Yp 37 31 36,Ym 38 37]
def z1sb:List z6a:=
 [YG 38 (Yf 39 4 2),YG 38 (YL 40 8 2 39),YG 38 (Yf 41 4 3),YG 38 (YL 42 8 3 41),YG 38 (YK 43 133 40 42),Yp 44 38 43,Ym 45 44]
def z2sb:List z6a:=
 [YG 45 (Yf 46 28 2),YG 45 (Yl 47 2 46),YG 45 (Yf 48 28 3),YG 45 (Yl 49 3 48),YG 45 (YK 50 301 47 49),Yp 51 45 50,Ym 52 51]
def z5rb:List z6a:=
 [YG 52 (Yf 53 29 2),YG 52 (Yl 54 2 53),YG 52 (Yf 55 29 3),YG 52 (Yl 56 3 55),YG 52 (YK 57 132 54 56),Yp 58 52 57,Ym 4 58]
def z2Ja:z1ka:=
 {n:=2,wr:=[],res:=[.t 4],body:=YR [2,3] [.norm [2,3]] [Yx 2 2 30 0,Yx 3 3 30 1,Yw 4 false] (YR [4] [.norm [2,3]] (z2ob++z5qb++z7sb++z6pb++z4rb++z1sb++z2sb++z5rb) .ret)}
def z8Va:z1c:=
 Yu [1,3,31,32,33] [YM 39 3,Yf 40 0 5,Yj 41 40,Yf 42 1 5,Yj 43 42,Yf 44 2 5,Yj 45 44,Yf 46 3 5,Yj 47 46,Yf 48 4 5,Yj 49 48,Yf 50 5 5,Yj 51 50,Yf 52 6 5,Yj 53 52,Ym 54 6,Yo 55 (.buildSl 1 8 [i64 0,i64 0,i64 0,i64 0,i64 0,i64 0,i64 0,i64 0] [(0,1,.s 41),(1,1,.s 43),(2,1,.s 45),(3,1,.s 47),(4,1,.s 49),(5,1,.s 51),(6,1,.s 53),(7,1,.s 54)]),Yk 56 39 55,Yf 57 8 5,Yo 58 (.slArr 16 1 (.s 57) none none none),Yo 59 (.buildSl 1 3 [.sl .plain none 0 [],.sl .plain none 0 [],.sl .plain none 0 []] [(0,1,.s 39),(1,1,.s 56),(2,1,.s 58)]),Yk 60 129 59,YM 3 60]
def z1Va:z1c:=
 Yq (.block 1 (YR [1,3,5,31,32,33] [.norm [5],.freeze [5],.norm []] [Yi 35 24 31 33,YJ 36 24 35,Yo 5 (.alloc 5 (List.replicate 7 (i64 0)++[bo false]++bys (z5j 16))),Ys 24 5 5 36] (Yr [1,3,5,6,31,32,33] [Yc 6 0] (Yq (Yr [1,3,5,6,31,32,33,38] [Yf 37 7 5,Yj 38 37] (Yd 38 (Yu [1,3,5,6,31,32,33] [Yc 6 1]) (Yy [1,3,5,6,31,32,33]))) z8Va)))) (.region [1,3,31,32,33] [.drop [5]] [YB 61 .add 33 1,Ym 33 61])
def z6Ja:z1c:=
 Yr [1,3,31,32,33,34] [Yb 34 .lss 33 32] (Yq (Yd 34 (Yy [1,3,31,32,33]) (YY [1,3])) z1Va)
def z2eb:z1c:=
 Yr [2] [YM 62 3,Yf 63 29 1,Yj 64 63,Yk 65 39 64,Yo 66 (.append 1 1 false none none 62 (.s 65)),Yo 67 (.toStr none (.s 66)),Ym 2 67] .ret
def z1Ca:z1ka:=
 {n:=1,wr:=[],res:=[.t 2],body:=YR [1] [.norm [1],.freeze [1],.norm []] [Yx 1 1 30 0,Yo 2 (.mv false (.c (st [])))] (Yr [1,3] [Yf 7 0 1,Yj 8 7,Yf 9 1 1,Yj 10 9,Yf 11 2 1,Yj 12 11,Yf 13 3 1,Yj 14 13,Yo 15 (.buildSl 1 4 [i64 0,i64 0,i64 0,i64 0] [(0,1,.s 8),(1,1,.s 10),(2,1,.s 12),(3,1,.s 14)]),Yk 16 39 15,Yf 17 4 1,YJ 18 8 17,Yk 19 130 18,Yo 20 (.toStr none (.s 19)),Yk 21 7 20,Yf 22 12 1,Yo 23 (.slArr 16 1 (.s 22) none none none),Yf 24 28 1,Yj 25 24,Yn 26 25,Yk 27 12 26,Yo 28 (.buildSl 1 4 [.sl .plain none 0 [],.sl .plain none 0 [],.sl .plain none 0 [],.sl .plain none 0 []] [(0,1,.s 16),(1,1,.s 21),(2,1,.s 23),(3,1,.s 27)]),Yk 29 129 28,YM 3 29] (Yq (Yr [1,3,31,32,33] [Yf 30 28 1,Yj 31 30,Yn 32 31,Yc 33 0] (.block 0 (.loop z6Ja))) z2eb))}
def z0Da:z1ka:=
 {n:=1,wr:=[],res:=[.cell 2 (some 16) 2],body:=YR [1,2] [.norm [1,2]] [Yx 1 1 30 0,Yz 2 2 16] (YR [2] [.norm [1,2]] [YL 3 30 1 1,Yk 4 302 3,Yo 5 (.buildSl 1 1 [st []] [(0,1,.s 4)]),Yo 6 (.call 8 [.c (i64 8),.s 5] []),Ys 16 2 2 6] .ret)}
def z6Ca:z1ka:=
 {n:=1,wr:=[],res:=[.t 2],body:=Yr [] [Yw 2 false] (Yr [2] [Yo 3 (.buildSl 1 8 [i64 0,i64 0,i64 0,i64 0,i64 0,i64 0,i64 0,i64 0] [(0,1,.c (i64 2)),(1,1,.c (i64 4)),(2,1,.c (i64 5)),(3,1,.c (i64 6)),(4,1,.c (i64 8)),(5,1,.c (i64 10)),(6,1,.c (i64 15)),(7,1,.c (i64 19))]),Ym 4 0,YK 5 312 3 4,Ym 2 5] .ret)}
def z2ya:z1ka:=
 {n:=3,wr:=[],res:=[.t 6],body:=Yr [] [Yw 6 false] (Yr [6] [Ym 7 1,Ym 8 0,Yb 9 .leq 7 8,Ym 10 9,YG 10 (Ym 11 0),YG 10 (Ym 12 2),YG 10 (Yb 13 .leq 11 12),Yp 14 10 13,Ym 6 14] .ret)}
def z6ab:List z6a:=
 [Yf 3 0 1,Yl 4 1 3,Yo 5 (.call 295 [.s 4,.c (i64 1),.c (i64 2147483647)] []),Ym 6 5]
def z29a:List z6a:=
 [YG 6 (Yf 7 5 1),YG 6 (Yl 8 1 7),YG 6 (Yo 9 (.call 295 [.s 8,.c (i64 1),.c (i64 2147483647)] [])),Yp 10 6 9,Ym 11 10]
def z59a:List z6a:=
 [YG 11 (Yf 12 6 1),YG 11 (Yl 13 1 12),YG 11 (Yo 14 (.call 295 [.s 13,.c (i64 0),.c (i64 2147483647)] [])),Yp 15 11 14,Ym 16 15]
def z97a:List z6a:=
 [YG 16 (Yf 17 1 1),YG 16 (Yl 18 1 17),YG 16 (Yo 19 (.call 295 [.s 18,.c (i64 0),.c (i64 31)] [])),Yp 20 16 19,Ym 21 20]
def z49a:List z6a:=
 [YG 21 (Yf 22 2 1),YG 21 (Yl 23 1 22),YG 21 (YB 24 .andNot 23 956),YG 21 (YB 25 .eql 24 0),Yp 26 21 25,Ym 27 26]
def z78a:List z6a:=
 [YG 27 (Yf 28 3 1),YG 27 (Yl 29 1 28),YG 27 (Yf 30 4 1),YG 27 (Yl 31 1 30),YG 27 (Yo 32 (.call 295 [.s 29,.c (i64 0),.s 31] [])),Yp 33 27 32,Ym 34 33]
def z2Ra:List z6a:=
 [YG 34 (Yf 35 4 1),YG 34 (Yl 36 1 35),YG 34 (Yo 37 (.call 295 [.s 36,.c (i64 0),.c (i64 1099511627776)] [])),Yp 38 34 37,Ym 2 38]
def z5Aa:z1ka:=
 {n:=1,wr:=[],res:=[.t 2],body:=YR [1] [.norm [1]] [Yx 1 1 24 0,Yw 2 false] (YR [2] [.norm [1]] (z6ab++z29a++z59a++z97a++z49a++z78a++z2Ra) .ret)}
def z1qa:z1ka:=
 {n:=2,wr:=[],res:=[.t 4],body:=Yr [] [Yw 4 false] (Yr [4] [Ym 5 0,Ym 6 1,YK 7 313 5 6,YB 8 .geq 7 0,Ym 4 8] .ret)}
def z6Aa:z1ka:=
 {n:=2,wr:=[],res:=[.t 3],body:=YR [2] [.norm [2]] [Yx 2 2 24 0,Yw 3 false] (YR [3] [.norm [2]] [Yj 4 1,YL 5 24 2 2,Yo 6 (.callv 296 (.s 4) [.s 5] []),Yo 7 (.un .not (.s 6)),Ym 3 7] .ret)}
def z6Ha:z1c:=
 Yq (.block 1 (Yr [5,12,13] [Ym 15 13,Ym 5 15] (Yr [12,13,24] [Ym 16 0,Ym 17 5,Yi 18 24 16 17,YJ 19 24 18,Ym 20 1,Ym 21 5,Yi 22 24 20 21,YJ 23 24 22,Yo 24 (.eqF kM true (.s 19) (.s 23))] (Yd 24 (Yr [4] [Yw 4 false] .ret) (Yy [12,13]))))) (Yu [12,13] [YB 25 .add 13 1,Ym 13 25])
def z2Ba:z1c:=
 Yr [12,13,14] [Yb 14 .lss 13 12] (Yq (Yd 14 (Yy [12,13]) (YY [])) z6Ha)
def z5Ta:z1c:=
 Yr [4] [Yw 4 true] .ret
def z5Ha:z1c:=
 Yq (Yr [12,13] [Ym 11 0,Yn 12 11,Yc 13 0] (.block 0 (.loop z2Ba))) z5Ta
def z4ta:z1ka:=
 {n:=2,wr:=[],res:=[.t 4],body:=Yr [] [Yw 4 false] (Yq (Yr [10] [Ym 6 0,Yn 7 6,Ym 8 1,Yn 9 8,Yb 10 .neq 7 9] (Yd 10 (Yr [4] [Yw 4 false] .ret) (Yy []))) z5Ha)}
def z3ta:z1c:=
 Yq (.block 1 (Yr [5,7,8] [Ym 10 8,Ym 5 10] (Yr [5,7,8,16] [Ym 11 1,Ym 12 0,Ym 13 5,Yi 14 24 12 13,YJ 15 24 14,Yo 16 (.callv 297 (.s 11) [.s 15] [])] (Yd 16 (Yr [4] [Ym 17 5,Ym 4 17] .ret) (Yy [7,8]))))) (Yu [7,8] [YB 18 .add 8 1,Ym 8 18])
def z7ra:z1c:=
 Yr [7,8,9] [Yb 9 .lss 8 7] (Yq (Yd 9 (Yy [7,8]) (YY [])) z3ta)
def z9xa:z1c:=
 Yr [4] [Yc 4 (-1)] .ret
def z6qa:z1ka:=
 {n:=2,wr:=[],res:=[.t 4],body:=Yr [] [Yc 4 0] (Yq (Yr [7,8] [Ym 6 0,Yn 7 6,Yc 8 0] (.block 0 (.loop z7ra))) z9xa)}
def z6xa:z1ka:=
 {n:=2,wr:=[],res:=[.t 4],body:=Yr [] [Yw 4 false] (Yr [4] [Ym 5 0,Ym 6 1,YK 7 314 5 6,YB 8 .geq 7 0,Ym 4 8] .ret)}
def z1Ua:z1c:=
 Yq (.block 1 (Yr [5,7,8] [Ym 10 8,Ym 5 10] (Yr [5,7,8,16] [Ym 11 1,Ym 12 0,Ym 13 5,Yi 14 1 12 13,Yj 15 14,Yb 16 .eql 11 15] (Yd 16 (Yr [4] [Ym 17 5,Ym 4 17] .ret) (Yy [7,8]))))) (Yu [7,8] [YB 18 .add 8 1,Ym 8 18])
def z7Ja:z1c:=
 Yr [7,8,9] [Yb 9 .lss 8 7] (Yq (Yd 9 (Yy [7,8]) (YY [])) z1Ua)
def z4hb:z1c:=
 Yr [4] [Yc 4 (-1)] .ret
def z2Ca:z1ka:=
 {n:=2,wr:=[],res:=[.t 4],body:=Yr [] [Yc 4 0] (Yq (Yr [7,8] [Ym 6 0,Yn 7 6,Yc 8 0] (.block 0 (.loop z7Ja))) z4hb)}
end Go.Abs
end

section
namespace Go.Abs
theorem z8za (a x:z0a) (l xs:List z0a):splice (a::l) 0 (x::xs)=x::splice l 0 xs:=by simp[splice]
theorem z7za (l:List z0a):splice l 0 []=l:=by simp[splice]
theorem z2Pd {a b:List UInt8} (h:b.length=a.length) (r s:List z0a):splice (bys a++r) 0 (bys b++s)=bys b++splice r 0 s:=by
 have h1:(bys b).length=(bys a).length:=by simpa using h
 simp only[splice,List.take_zero,List.nil_append,Nat.zero_add,List.length_append,h1,←List.drop_drop,List.drop_left,List.append_assoc]
theorem tk_b {d:List UInt8} (h:d.length=16) (r:List z0a):(bys d++r).take 16=bys d:=by
 rw[List.take_append_of_le_length (by simp[h]),List.take_of_length_le (by simp[h])]
theorem z69d {d:List UInt8} (h:d.length=16) (x y:z0a):(bys d++[x,y]).take 18=bys d++[x,y]:=List.take_of_length_le (by simp[h])
theorem z0Zd {d:List UInt8} (h:d.length=16):(bys d).take 16=bys d:=List.take_of_length_le (by simp[h])
theorem dr_b {d:List UInt8} (h:d.length=16) (r:List z0a):(bys d++r).drop 16=r:=List.drop_left' (by simp[h])
theorem z3gd (l:List UInt8):(∀c∈bys l,z8a c)=True:=eq_true fun c hc=>by
 simp only[bys,List.mem_map] at hc
 obtain⟨x,_,rfl⟩:=hc
 trivial
theorem z29d (l:List UInt8):(∀c∈bys l,z5b c=false)=True:=eq_true fun c hc=>by
 simp only[bys,List.mem_map] at hc
 obtain⟨x,_,rfl⟩:=hc
 rfl
@[simp] theorem z3Hd (l:List z3P):z8b (z5za l)=true:=by
 refine(z4i _).2 fun c hc=> ?_
 obtain⟨m,_,h⟩:=List.mem_flatMap.1 hc
 rcases List.mem_append.1 h with h|h
 ·simp only[List.mem_cons,List.not_mem_nil,or_false] at h
  rcases h with rfl|rfl|rfl|rfl|rfl|rfl|rfl|rfl<;>rfl
 ·simp only[bys,List.mem_map] at h
  obtain⟨x,_,rfl⟩:=h
  rfl
theorem z8Ob {m:z3P}:∀c∈z7Ka m,z0b c=true∧z8a c:=by
 intro c hc
 rcases List.mem_append.1 hc with h|h
 ·simp only[List.mem_cons,List.not_mem_nil,or_false] at h
  rcases h with rfl|rfl|rfl|rfl|rfl|rfl|rfl|rfl<;>exact⟨rfl,trivial⟩
 ·simp only[bys,List.mem_map] at h
  obtain⟨x,_,rfl⟩:=h
  exact⟨rfl,trivial⟩
@[simp] theorem z9Oc (nc nm ng:Option Bool) (x:z2n):z8b (z0va nc nm ng x)=true:=by simp[z0va,z13a]
/-! ### an entry's cells, by name -/
@[simp] theorem z2Bd (nc nm ng:Option Bool) (x:z2n):hdA (z0va nc nm ng x)=i64 x.time:=rfl
@[simp] theorem ent_1 (nc nm ng:Option Bool) (x:z2n):hdA ((z0va nc nm ng x).drop 1)=i64 x.kind:=rfl
@[simp] theorem ent_1t (nc nm ng:Option Bool) (x:z2n):hdA (z0va nc nm ng x).tail=i64 x.kind:=rfl
@[simp] theorem ent_2 (nc nm ng:Option Bool) (x:z2n):hdA ((z0va nc nm ng x).drop 2)=i64 x.req:=rfl
@[simp] theorem ent_3 (nc nm ng:Option Bool) (x:z2n):hdA ((z0va nc nm ng x).drop 3)=i64 x.mode:=rfl
@[simp] theorem ent_4 (nc nm ng:Option Bool) (x:z2n):hdA ((z0va nc nm ng x).drop 4)=i64 x.cmd.kind:=rfl
@[simp] theorem ent_5 (nc nm ng:Option Bool) (x:z2n):hdA ((z0va nc nm ng x).drop 5)=i64 x.cmd.key:=rfl
@[simp] theorem ent_10 (nc nm ng:Option Bool) (x:z2n):hdA ((z0va nc nm ng x).drop 10)=st x.cmd.data:=rfl
@[simp] theorem z26d (nc nm ng:Option Bool) (x:z2n):((z0va nc nm ng x).drop 4).take 8=z13a x.cmd nc:=rfl
theorem z7Wc (nc nm ng:Option Bool) (x:z2n):(z0va nc nm ng x).drop 12=bys x.dig++[.sl .plain nm x.made.length (z5za x.made),.sl .plain ng x.gone.length (z6Ba x.gone)]:=by
 rw[show z0va nc nm ng x=([i64 x.time,i64 x.kind,i64 x.req,i64 x.mode]++z13a x.cmd nc)++(bys x.dig++[.sl .plain nm x.made.length (z5za x.made),.sl .plain ng x.gone.length (z6Ba x.gone)]) by simp[z0va]]
 exact List.drop_left' rfl
theorem z6Fb {nc nm ng:Option Bool} {x:z2n} (h:x.dig.length=16):((z0va nc nm ng x).drop 12).take 16=bys x.dig:=by rw[z7Wc,tk_b h]
theorem z0Lc {nc nm ng:Option Bool} {x:z2n} (h:x.dig.length=16):(z0va nc nm ng x).drop 28=[.sl .plain nm x.made.length (z5za x.made),.sl .plain ng x.gone.length (z6Ba x.gone)]:=by
 rw[show 28=12+16 by rfl,←List.drop_drop,z7Wc,dr_b h]
theorem z7Lb {nc nm ng:Option Bool} {x:z2n} (h:x.dig.length=16):hdA ((z0va nc nm ng x).drop 28)= .sl .plain nm x.made.length (z5za x.made):=by rw[z0Lc h];rfl
theorem z6Lb {nc nm ng:Option Bool} {x:z2n} (h:x.dig.length=16):hdA ((z0va nc nm ng x).drop 29)= .sl .plain ng x.gone.length (z6Ba x.gone):=by
 rw[show 29=28+1 by rfl,←List.drop_drop,z0Lc h];rfl
theorem z6ed {nc nm ng:Option Bool} {x:z2n} (h:x.dig.length=16):(z0va nc nm ng x).take 30=z0va nc nm ng x:=List.take_of_length_le (by rw[z8Qa h];exact Nat.le_refl _)
theorem z6rc {nc nm ng:Option Bool} {x:z2n}:∀c∈z0va nc nm ng x,z8a c∧z5b c=false:=by
 intro c hc
 simp only[z0va,z13a,List.mem_append,List.mem_cons,List.not_mem_nil,or_false,bys,List.mem_map] at hc
 rcases hc with(((h|h|h|h)|(h|h|h|h|h|h|h|h))|⟨u,_,h⟩)|(h|h)<;>subst h<;>exact⟨trivial,rfl⟩
@[simp] theorem z51d (nc nm ng:Option Bool) (x:z2n):(∀c∈z0va nc nm ng x,z8a c)=True:=eq_true fun c hc=>(z6rc c hc).1
@[simp] theorem z08d (nc nm ng:Option Bool) (x:z2n):(∀c∈z0va nc nm ng x,z5b c=false)=True:=eq_true fun c hc=>(z6rc c hc).2
@[simp] theorem z2Fd (l:List z3P):z6b (z5za l)=[]:=by
 induction l with
 |nil=>rfl
 |cons a l ih=>
  rw[z5za] at ih⊢
  rw[List.flatMap_cons,z2h,ih]
  simp[z7Ka,z6b]
@[simp] theorem z7Wd (nc nm ng:Option Bool) (x:z2n):z6b (z0va nc nm ng x)=[]:=by simp[z0va,z13a,z6b]
@[simp] theorem z45d:z2Jd.length=16:=rfl
end Go.Abs
end

section
namespace Go.Abs
/-! ### Lists of digests -/
def z9n (l:List (List UInt8)):Prop:=∀d∈l,d.length=16
def dgs (l:List (List UInt8)):List UInt8:=l.flatten
@[simp] theorem z5Jb:dgs []=[]:=rfl
@[simp] theorem z81a (d:List UInt8) (l:List (List UInt8)):dgs (d::l)=d++dgs l:=rfl
@[simp] theorem z2Zb (a b:List (List UInt8)):dgs (a++b)=dgs a++dgs b:=by simp[dgs]
theorem z5z:z9n []:=fun _ h=>by cases h
theorem z0u {d:List UInt8} {l:List (List UInt8)}:z9n (d::l)↔d.length=16∧z9n l:=by
 simp[z9n]
theorem z2y {a b:List (List UInt8)}:z9n (a++b)↔z9n a∧z9n b:=by
 simp only[z9n,List.mem_append]
 exact⟨fun h=>⟨fun d hd=>h d (.inl hd),fun d hd=>h d (.inr hd)⟩,fun h d hd=>hd.elim (h.1 d) (h.2 d)⟩
theorem z3v {l:List (List UInt8)} (h:z9n l) (n:Nat):z9n (l.take n):=fun d hd=>h d (List.mem_of_mem_take hd)
theorem z7Ab {l:List (List UInt8)} (h:z9n l) (n:Nat):z9n (l.drop n):=fun d hd=>h d (List.mem_of_mem_drop hd)
theorem z3za:∀{l:List (List UInt8)},z9n l→(dgs l).length=l.length*16
 |[],_=>rfl
 |d::l,h=>by
  obtain⟨h1,h2⟩:=z0u.1 h
  rw[z81a,List.length_append,h1,z3za h2,List.length_cons];omega
theorem z7Ob:∀{l:List (List UInt8)},z9n l→∀n,(dgs l).drop (n*16)=dgs (l.drop n)
 |[],_,n=>by simp
 |d::l,h,0=>by simp
 |d::l,h,n+1=>by
  obtain⟨h1,h2⟩:=z0u.1 h
  rw[z81a,List.drop_succ_cons,←z7Ob h2 n,List.drop_append,List.drop_of_length_le (by omega),List.nil_append]
  congr 1;omega
theorem z9kb:∀{l:List (List UInt8)},z9n l→∀n,(dgs l).take (n*16)=dgs (l.take n)
 |[],_,n=>by simp
 |d::l,h,0=>by simp
 |d::l,h,n+1=>by
  obtain⟨h1,h2⟩:=z0u.1 h
  rw[z81a,List.take_succ_cons,z81a,←z9kb h2 n,List.take_append,List.take_of_length_le (by omega)]
  congr 2;omega
def z4sc:Nat→List UInt8→List (List UInt8)
 |0,_=>[]
 |n+1,b=>b.take 16::z4sc n (b.drop 16)
theorem z6jc:∀{l:List (List UInt8)},z9n l→z4sc l.length (dgs l)=l
 |[],_=>rfl
 |d::l,h=>by
  obtain⟨h1,h2⟩:=z0u.1 h
  rw[List.length_cons,z4sc,z81a,←h1,List.take_left,List.drop_left,z6jc h2]
def gDs (d:z0a):List (List UInt8):=match d with| .sl _ _ n cs=>z4sc n (gBs cs)|_=>[]
theorem z1Ja {m:z4r} {nl:Option Bool} {l:List (List UInt8)} (h:z9n l):gDs (.sl m nl l.length (bys (dgs l)))=l:=by
 simp only[gDs]
 rw[show gBs (bys (dgs l))=dgs l by simp]
 exact z6jc h
def z5la (l:List (List UInt8)) (i:Nat):List UInt8:=l.getD i []
theorem z69a {l:List (List UInt8)} (h:z9n l) {i:Nat} (hi:i<l.length):(z5la l i).length=16:=by
 simp only[z5la,List.getD,List.getElem?_eq_getElem hi,Option.getD_some]
 exact h _ (List.getElem_mem hi)
theorem z7Qb {l:List (List UInt8)} (h:z9n l) {i:Nat} (hi:i<l.length):((dgs l).drop (i*16)).take 16=z5la l i:=by
 rw[z7Ob h,List.drop_eq_getElem_cons hi,z81a]
 have:(l[i]).length=16:=h _ (List.getElem_mem hi)
 rw[←this,List.take_left]
 simp[z5la,List.getD,List.getElem?_eq_getElem hi]

/-! ### Powers of two -/
def spl (n:Nat):Nat:=2^Nat.log2 (n-1)
theorem z4v (n:Nat):1≤spl n:=Nat.one_le_two_pow
theorem z0H {n:Nat} (h:2≤n):spl n<n:=by
 have:=Nat.log2_self_le (n:=n-1) (by omega)
 unfold spl;omega
theorem z4Cb {n:Nat} (h:2≤n):n≤2*spl n:=by
 have h1:n-1<2^(Nat.log2 (n-1)+1):=Nat.lt_log2_self
 rw[Nat.pow_succ] at h1
 unfold spl;omega
theorem z13c {a b n:Nat} (h1:2^a<n) (h2:n≤2*2^a) (h3:2^b<n) (h4:n≤2*2^b):a=b:=by
 rcases Nat.lt_trichotomy a b with h|h|h
 ·have:=Nat.pow_le_pow_right (n:=2) (by decide) (show a+1≤b from h)
  rw[Nat.pow_succ] at this;omega
 ·exact h
 ·have:=Nat.pow_le_pow_right (n:=2) (by decide) (show b+1≤a from h)
  rw[Nat.pow_succ] at this;omega
def z88b (n:Nat):Nat:=if n=0 then 0 else Nat.log2 n+1
theorem z54c {n k:Nat} (h1:2^k≤n) (h2:n<2^(k+1)):z88b n=k+1:=by
 have h0:n≠0:=by have:=Nat.one_le_two_pow (n:=k);omega
 rw[z88b,if_neg h0]
 have a1:=Nat.log2_self_le h0
 have a2:n<2^(Nat.log2 n+1):=Nat.lt_log2_self
 rcases Nat.lt_trichotomy (Nat.log2 n) k with h|h|h
 ·have:=Nat.pow_le_pow_right (n:=2) (by decide) (show Nat.log2 n+1≤k from h);omega
 ·rw[h]
 ·have:=Nat.pow_le_pow_right (n:=2) (by decide) (show k+1≤Nat.log2 n from h);omega

/-! ### Trees -/
def z0xb (b:List UInt8):List UInt8:=(sha b).take 16
def z9ia (l:List (List UInt8)):List UInt8:=
 if h:2≤l.length then z0f 2 [z9ia (l.take (spl l.length)),z9ia (l.drop (spl l.length))] else z0f 1 l
termination_by l.length
decreasing_by
 ·rw[List.length_take];have:=z0H h;omega
 ·rw[List.length_drop];have:=z4v l.length;omega
theorem z9tc {l:List (List UInt8)} (h:2≤l.length):z9ia l=z0f 2 [z9ia (l.take (spl l.length)),z9ia (l.drop (spl l.length))]:=by rw[z9ia,dif_pos h]
theorem z38b {l:List (List UInt8)} (h:¬2≤l.length):z9ia l=z0f 1 l:=by rw[z9ia,dif_neg h]
theorem z0lb (l:List (List UInt8)):(z9ia l).length=16:=by
 by_cases h:2≤l.length
 ·rw[z9tc h];exact z0e _ _
 ·rw[z38b h];exact z0e _ _
end Go.Abs
end

section
namespace Go.Abs
def z3Ea (nl:Option Bool) (l:List (List UInt8)):z0a:= .sl .plain nl l.length (bys (dgs l))
def inM:z1f:=⟨fun ds=>∃(t:UInt8) (nl:Option Bool) (l:List (List UInt8)),z9n l∧l.length≤1000000∧ds=[u8 t,z3Ea nl l],fun ds=> .sl (.own 1) (some false) ((gU8 (nth ds 0))::(gDs (nth ds 1)).flatMap z2X).length (bys ((gU8 (nth ds 0))::(gDs (nth ds 1)).flatMap z2X))⟩
theorem z6nc {t:UInt8} {nl:Option Bool} {l:List (List UInt8)} {n:Nat} {b:List UInt8} (h:z9n l) (hl:l.length≤1000000) (hn:n=l.length) (hb:b=dgs l):inM.pre [u8 t,.sl .plain nl n (bys b)]=True:=eq_true ⟨t,nl,l,h,hl,by rw[hn,hb];rfl⟩
theorem z4Ob {t:UInt8} {nl:Option Bool} {l:List (List UInt8)} (h:z9n l):inM.post [u8 t,.sl .plain nl l.length (bys (dgs l))]= .sl (.own 1) (some false) (t::l.flatMap z2X).length (bys (t::l.flatMap z2X)):=by
 simp only[inM,nth]
 rw[show([u8 t,z0a.sl .plain nl l.length (bys (dgs l))].getD 1 .undef)=z0a.sl .plain nl l.length (bys (dgs l)) from rfl,z1Ja h]
 simp
def shM:z1f:=⟨fun ds=>∃(nl:Option Bool) (b:List UInt8),b.length≤1000000000∧ds=[.sl .plain nl b.length (bys b)],fun ds=> .agg (bys (z0xb (gBs (gCs (nth ds 0)))))⟩
theorem z3db {nl:Option Bool} {n:Nat} {b:List UInt8} (h:b.length≤1000000000) (hn:n=b.length):shM.pre [.sl .plain nl n (bys b)]=True:=eq_true ⟨nl,b,h,by rw[hn]⟩
@[simp] theorem z0uc (m:z4r) (nl:Option Bool) (n:Nat) (b:List UInt8):shM.post [.sl m nl n (bys b)]= .agg (bys (z0xb b)):=by simp[shM]
def z8Pb:z1f:=⟨fun ds=>∃d:List UInt8,d.length=16∧ds=[.agg (bys d)],fun ds=> .sl (.own 1) (some false) (z4ga 1 [gBs (gCs (nth ds 0))]).length (bys (z4ga 1 [gBs (gCs (nth ds 0))]))⟩
def z1Lb:z1f:=⟨fun ds=>∃a b:List UInt8,a.length=16∧b.length=16∧ds=[.agg (bys a),.agg (bys b)],fun ds=> .sl (.own 1) (some false) (z4ga 2 [gBs (gCs (nth ds 0)),gBs (gCs (nth ds 1))]).length (bys (z4ga 2 [gBs (gCs (nth ds 0)),gBs (gCs (nth ds 1))]))⟩
theorem z5Rb {d:List UInt8} (h:d.length=16):z8Pb.pre [.agg (bys d)]=True:=eq_true ⟨d,h,rfl⟩
theorem z4Wb {a b:List UInt8} (ha:a.length=16) (hb:b.length=16):z1Lb.pre [.agg (bys a),.agg (bys b)]=True:=eq_true ⟨a,b,ha,hb,rfl⟩
@[simp] theorem z8Fc (d:List UInt8):z8Pb.post [.agg (bys d)]= .sl (.own 1) (some false) (z4ga 1 [d]).length (bys (z4ga 1 [d])):=by simp[z8Pb]
@[simp] theorem z0Fc (a b:List UInt8):z1Lb.post [.agg (bys a),.agg (bys b)]= .sl (.own 1) (some false) (z4ga 2 [a,b]).length (bys (z4ga 2 [a,b])):=by simp[z1Lb,nth]
def z8ed:z1f:=⟨fun ds=>∃n:Nat,2≤n∧n≤9223372036854775807∧ds=[i64 n],fun ds=>i64 (spl (asI (nth ds 0)).toNat)⟩
theorem z91c {n:Nat} (h:2≤n) (h':n≤9223372036854775807):z8ed.pre [i64 n]=True:=eq_true ⟨n,h,h',rfl⟩
@[simp] theorem z5Kc (n:Nat):z8ed.post [i64 n]=i64 (spl n):=by simp[z8ed]
def z2Hc:z1f:=⟨fun ds=>∃x:UInt64,ds=[u64 x],fun ds=>i64 (z88b (asI (nth ds 0)).toNat)⟩
@[simp] theorem z82d (x:UInt64):z2Hc.pre [u64 x]=True:=eq_true ⟨x,rfl⟩
@[simp] theorem z5gc (x:UInt64):z2Hc.post [u64 x]=i64 (z88b x.toNat):=by
 show i64 (z88b ((x.toNat:Int)).toNat)=_
 rw[Int.toNat_natCast]
def z0ob:z1f:=⟨fun ds=>∃(nl:Option Bool) (l:List (List UInt8)),z9n l∧l.length≤1000000∧ds=[z3Ea nl l],fun ds=> .agg (bys (z9ia (gDs (nth ds 0))))⟩
theorem z1Bb {nl:Option Bool} {n:Nat} {l:List (List UInt8)} {b:List UInt8} (h:z9n l) (hl:l.length≤1000000) (hn:n=l.length) (hb:b=dgs l):z0ob.pre [.sl .plain nl n (bys b)]=True:=eq_true ⟨nl,l,h,hl,by rw[hn,hb];rfl⟩
theorem z5ib {nl:Option Bool} {n:Nat} {l:List (List UInt8)} {b:List UInt8} (h:z9n l) (hn:n=l.length) (hb:b=dgs l):z0ob.post [.sl .plain nl n (bys b)]= .agg (bys (z9ia l)):=by
 simp only[z0ob]
 rw[hn,hb,show nth [z0a.sl .plain nl l.length (bys (dgs l))] 0=z0a.sl .plain nl l.length (bys (dgs l)) from rfl,z1Ja h]
/-! ### Turning round -/
end Go.Abs
end
