/- Lemmas: an abstract interpreter, and what the functions compute. -/
import Derived.Test.YtepddcbbkhdfiaaGreatDoorI
import Derived.Test.YtepddcbbkhdfiaaGreatDoorG
import Derived.Test.YtepddcbbkhdfiaaGreatDoorN
import Derived.Test.YtepddcbbkhdfiaaGreatDoorK
import Derived.Test.YtepddcbbkhdfiaaGreatDoorJ
import Derived.Test.YtepddcbbkhdfiaaGreatDoorL
import Derived.Test.YtepddcbbkhdfiaaGreatDoorH
set_option linter.unusedSimpArgs false
set_option linter.unusedVariables false
set_option linter.unusedSectionVars false
section
namespace Go.Abs
set_option maxRecDepth 100000
def z7la:z3a:=
 Yq (.block 1 (Yr [5,25] [Ym 17 0,Ym 18 5,Yi 19 16 17 18,YJ 20 16 19,Ym 21 1,Ym 22 5,Yi 23 16 21 22,YJ 24 16 23,Yo 25 (.eqF (ks8 16) true (.s 20) (.s 24))] (Yd 25 (Yr [4] [Yw 4 false] .ret) (Yy [5])))) (Yu [5] [Ym 15 5,YB 16 .add 15 1,Ym 5 16])
def z0na:z3a:=
 Yq (Yr [5,14] [Ym 11 5,Ym 12 0,Yn 13 12,Yb 14 .lss 11 13] (Yd 14 (Yy [5]) (YY []))) z7la
def z6la:z3a:=
 Yr [4] [Yw 4 true] .ret
def z0ma:z3a:=
 Yq (Yr [5] [Yc 5 0] (.block 0 (.loop z0na))) z6la
def z7ya:z6e:=
 {n:=2,wr:=[],res:=[.t 4],body:=Yr [] [Yw 4 false] (Yq (Yr [10] [Ym 6 0,Yn 7 6,Ym 8 1,Yn 9 8,Yb 10 .neq 7 9] (Yd 10 (Yr [4] [Yw 4 false] .ret) (Yy []))) z0ma)}
def z2i:z3a:=
 YR [5,6,11] [.norm [5,6,11]] [YL 19 16 5 5,Ym 20 2,Ym 21 3,Ym 22 4,Yo 23 (.call 205 [.s 19,.s 20,.s 21,.c (bo true),.s 22] []),Yo 11 (.alloc 11 (bys (z9c 32)++[bo false])),Ys 33 11 11 23] (YR [10] [.norm [5,6,11]] [Yf 24 32 11,Yl 25 11 24,Ym 26 25,YG 26 (Yf 27 0 11),YG 26 (YL 28 16 11 27),YG 26 (YL 29 16 5 5),YG 26 (Yo 30 (.eqF (ks8 16) false (.s 28) (.s 29))),Yp 31 26 30,Ym 32 31,YG 32 (Yf 33 16 11),YG 32 (YL 34 16 11 33),YG 32 (YL 35 16 6 6),YG 32 (Yo 36 (.eqF (ks8 16) false (.s 34) (.s 35))),Yp 37 32 36,Ym 10 37] .ret)
def z3c:z6e:=
 {n:=5,wr:=[],res:=[.t 10],body:=YR [5,6] [.norm [5,6]] [Yx 5 5 16 0,Yx 6 6 16 1,Yw 10 false] (Yq (Yr [5,6,18] [Ym 12 2,YB 13 .lss 12 1,Ym 14 13,Yg 14 (Ym 15 2),Yg 14 (Ym 16 3),Yg 14 (Yb 17 .gtr 15 16),YP 18 14 17] (Yd 18 (Yr [10] [Yw 10 false] .ret) (Yy [5,6]))) z2i)}
def z3da:z6e:=
 {n:=2,wr:=[],res:=[.t 4],body:=YR [2,3] [.norm [2,3]] [Yx 2 2 2 0,Yx 3 3 2 1,Yw 4 false] (YR [2,3,5] [.norm [2,3]] [Yf 6 1 2,Yl 7 2 6,Yf 8 1 3,Yl 9 3 8,YK 10 200 7 9,Ym 5 10] (YR [4] [.norm [2,3]] [Ym 11 5,Ym 12 11,YG 12 (Yf 13 0 2),YG 12 (Yl 14 2 13),YG 12 (Yf 15 0 3),YG 12 (Yl 16 3 15),YG 12 (Yb 17 .eql 14 16),Yp 18 12 17,Ym 4 18] .ret))}
def z8qa:z3a:=
 .block 1 (Yr [2,4,6,7,8] [Ym 29 8,YB 30 .sub 29 1,Ym 8 30] (YR [2,4,6,7,8] [.norm [2,3,4,6]] [Yf 31 1 2,Yl 32 2 31,Ym 33 8,Yi 34 16 32 33,YJ 35 16 34,YL 36 16 6 6,YK 37 202 35 36,Ys 16 6 6 37] (Yu [2,4,6,7,8] [Ym 38 7,YB 39 .quo 38 2,Ym 7 39])))
def z6pa:z3a:=
 Yq (Yr [2,4,6,7,8,28] [Ym 26 7,YB 27 .rem 26 2,YB 28 .eql 27 1] (Yd 28 (Yy [2,4,6,7,8]) (YY [2,4,6,8]))) z8qa
def z3ra:z3a:=
 YR [2,4,6,8,9] [.norm [2,3,4,6,9],.reB 9 1 (some 16),.norm [2,3,4,6,9]] [Yf 40 0 2,Yl 41 2 40,YB 42 .add 41 1,Yo 43 (.build [i64 0,.sl .plain (some true) 0 []] [(0,1,.s 42)]),Yo 9 (.alloc 9 [i64 0,.sl (.own 16) none 0 []]),Ys 2 9 9 43] (YR [4,6,9] [.norm [2,3,4,6,9]] [Yf 44 1 9,Yo 45 (.load none (some 9) true (.s 44)),Yf 46 1 2,Yl 47 2 46,Ym 48 8,Yo 49 (.slSl 16 (.s 47) none (some (.s 48)) none),Yo 50 (.append 16 16 false none none 45 (.s 49)),Yf 51 1 9,YO (.store none 9 true (.s 51) (.s 50))] (YR [4,9] [.norm [2,3,4,6,9],.reB 9 1 none,.norm [2,3,4,6,9]] [Yf 52 1 9,Yo 53 (.load none (some 9) true (.s 52)),YL 54 16 6 6,Yo 55 (.buildSl 16 1 (bys (z9c 16)) [(0,16,.s 54)]),Yo 56 (.append 16 16 false none none 53 (.s 55)),Yf 57 1 9,YO (.store none 9 true (.s 57) (.s 56))] (YR [4,5] [.norm [2,3,4,6,9]] [YL 58 2 9 9,Ys 2 4 4 58,Yc 5 0] .ret)))
def z6na:z3a:=
 YR [2,4,6] [.norm [2,3,4,6]] [YL 19 16 3 3,Yk 20 201 19,Yz 6 6 16,Ys 16 6 6 20] (YR [2,4,6,7] [.norm [2,3,4,6]] [Yf 21 0 2,Yl 22 2 21,Ym 7 22] (YR [2,4,6,7,8] [.norm [2,3,4,6]] [Yf 23 1 2,Yl 24 2 23,Yn 25 24,Ym 8 25] (Yq (.block 0 (.loop z6pa)) z3ra)))
def z0Da:z6e:=
 {n:=2,wr:=[],res:=[.cell 4 (some 2) 4,.t 5],body:=YR [2,3,4] [.norm [2,3,4]] [Yx 2 2 2 0,Yx 3 3 16 1,Yo 4 (.alloc 4 [i64 0,.sl (.own 16) none 0 []]),Yc 5 0] (Yq (YR [2,3,4,17] [.norm [2,3,4]] [YL 10 2 2 2,Yk 11 211 10,Yo 12 (.un .not (.s 11)),Ym 13 12,Yg 13 (Yf 14 0 2),Yg 13 (Yl 15 2 14),Yg 13 (YB 16 .eql 15 4294967296),YP 17 13 16] (Yd 17 (YR [4,5] [.norm [2,3,4]] [Yo 18 (.build [i64 0,.sl .plain none 0 []] []),Ys 2 4 4 18,Yc 5 1] .ret) (Yy [2,3,4]))) z6na)}
def z2Q:z3a:=
 Yq (.block 1 (.region [1,2,4,5] [.norm [1,2,4]] [Yf 31 1 1,Yl 32 1 31,Ym 33 5,Yi 34 16 32 33,YJ 35 16 34,YL 36 16 4 4,YK 37 202 35 36,Ys 16 4 4 37])) (Yu [1,2,4,5] [Ym 29 5,YB 30 .sub 29 1,Ym 5 30])
def z4z:z3a:=
 Yq (Yr [1,2,4,5,28] [Ym 27 5,YB 28 .geq 27 0] (Yd 28 (Yy [1,2,4,5]) (YY [2,4]))) z2Q
def z8N:z3a:=
 YR [2,3] [.norm [1,2,4]] [YL 38 16 4 4,Ys 16 2 2 38,Yc 3 0] .ret
def z0R:z3a:=
 YR [1,2,4] [.norm [1,2,4]] [Yf 15 1 1,Yl 16 1 15,Yf 17 1 1,Yl 18 1 17,Yn 19 18,YB 20 .sub 19 1,Yi 21 16 16 20,YJ 22 16 21,Yz 4 4 16,Ys 16 4 4 22] (Yq (YR [1,2,4,5] [.norm [1,2,4]] [Yf 23 1 1,Yl 24 1 23,Yn 25 24,YB 26 .sub 25 2,Ym 5 26] (.block 0 (.loop z4z))) z8N)
def z9x:z3a:=
 Yq (YR [1,2,13] [.norm [1,2]] [Yf 10 1 1,Yl 11 1 10,Yn 12 11,YB 13 .eql 12 0] (Yd 13 (YR [2,3] [.norm [1,2]] [Yo 14 (.call 20 [.c (i64 1),.c (.lit (.slice none 0 0))] []),Ys 16 2 2 14,Yc 3 0] .ret) (Yy [1,2]))) z0R
def z5g:z6e:=
 {n:=1,wr:=[],res:=[.cell 2 (some 16) 2,.t 3],body:=YR [1,2] [.norm [1,2]] [Yx 1 1 2 0,Yz 2 2 16,Yc 3 0] (Yq (YR [1,2,8] [.norm [1,2]] [YL 6 2 1 1,Yk 7 211 6,Yo 8 (.un .not (.s 7))] (Yd 8 (YR [2,3] [.norm [1,2]] [Yo 9 (.build (bys (z9c 16)) []),Ys 16 2 2 9,Yc 3 1] .ret) (Yy [1,2]))) z9x)}
def z0I:z3a:=
 .block 1 (Yu [3] [Ym 9 3,Yo 10 (.bin .mul (.c (i64 2)) (.s 9)),Ym 3 10])
def z4v:z3a:=
 Yq (Yr [3,8] [Ym 4 3,Ym 5 0,Ym 6 3,Yb 7 .sub 5 6,Yb 8 .lss 4 7] (Yd 8 (Yy [3]) (YY [3]))) z0I
def z6I:z3a:=
 Yr [2] [Ym 11 3,Ym 2 11] .ret
def z7k:z6e:=
 {n:=1,wr:=[],res:=[.t 2],body:=Yr [] [Yc 2 0] (Yr [3] [Yc 3 1] (Yq (.block 0 (.loop z4v)) z6I))}
def z9ya:z6e:=
 {n:=1,wr:=[],res:=[.cell 2 (some 16) 2],body:=YR [1,2] [.norm [1,2]] [Yx 1 1 16 0,Yz 2 2 16] (YR [2] [.norm [1,2]] [YL 3 16 1 1,Yk 4 23 3,Yo 5 (.buildSl 1 1 [st []] [(0,1,.s 4)]),Yo 6 (.call 20 [.c (i64 1),.s 5] []),Ys 16 2 2 6] .ret)}
def z3j:z6e:=
 {n:=2,wr:=[],res:=[.cell 4 (some 16) 4],body:=YR [2,3,4] [.norm [2,3,4]] [Yx 2 2 16 0,Yx 3 3 16 1,Yz 4 4 16] (YR [4] [.norm [2,3,4]] [YL 5 16 2 2,Yk 6 23 5,YL 7 16 3 3,Yk 8 23 7,Yo 9 (.buildSl 1 2 [st [],st []] [(0,1,.s 6),(1,1,.s 8)]),Yo 10 (.call 20 [.c (i64 2),.s 9] []),Ys 16 4 4 10] .ret)}
def z6E:z3a:=
 YR [10,11,15] [.norm [5,10,11,14,15]] [YL 72 16 5 5,Ym 73 1,Ym 74 13,Yb 75 .sub 73 74,Ym 76 2,Ym 77 13,Yb 78 .sub 76 77,YM 79 12,Yo 80 (.call 205 [.s 72,.s 75,.s 78,.c (bo false),.s 79] []),Yo 15 (.alloc 15 (bys (z9c 32)++[bo false])),Ys 33 15 15 80] (YR [10] [.norm [5,10,11,14,15]] [YL 81 16 11 11,Yf 82 0 15,YL 83 16 15 82,YK 84 202 81 83,YL 85 16 11 11,Yf 86 16 15,YL 87 16 15 86,YK 88 202 85 87,Yf 89 32 15,Yl 90 15 89,Yo 91 (.build (bys (z9c 32)++[bo false]) [(0,16,.s 84),(16,16,.s 88),(32,1,.s 90)]),Ys 33 10 10 91] .ret)
def z1t:z3a:=
 Yr [5,10,11,12,13] [Ym 52 2,Yk 53 195 52,Ym 13 53] (Yq (Yr [5,10,11,12,13,56] [Ym 54 1,Ym 55 13,Yb 56 .leq 54 55] (Yd 56 (YR [10,11,14] [.norm [5,10,11,14]] [YL 57 16 5 5,Ym 58 1,Ym 59 13,Ym 60 3,YM 61 12,YT 62 205 [57,58,59,60,61],Yo 14 (.alloc 14 (bys (z9c 32)++[bo false])),Ys 33 14 14 62] (YR [10] [.norm [5,10,11,14]] [Yf 63 0 14,YL 64 16 14 63,Yf 65 16 14,YL 66 16 14 65,YL 67 16 11 11,YK 68 202 66 67,Yf 69 32 14,Yl 70 14 69,Yo 71 (.build (bys (z9c 32)++[bo false]) [(0,16,.s 64),(16,16,.s 68),(32,1,.s 70)]),Ys 33 10 10 71] .ret)) (Yy [5,10,11,12,13]))) z6E)
def z7m:z3a:=
 YR [5,10,11] [.norm [5,10,11]] [Ym 32 4,Ym 33 4,Yn 34 33,YB 35 .sub 34 1,Yi 36 16 32 35,YJ 37 16 36,Yz 11 11 16,Ys 16 11 11 37] (Yr [5,10,11,12] [Ym 38 4,Ym 39 4,Yn 40 39,YB 41 .sub 40 1,Yo 42 (.slSl 16 (.s 38) none (some (.s 41)) none),YM 12 42] (Yq (Yr [5,10,11,12,45] [Ym 43 1,Ym 44 2,Yb 45 .eql 43 44] (Yd 45 (YR [10] [.norm [5,10,11]] [YL 46 16 11 11,YL 47 16 11 11,YM 48 12,Yn 49 48,YB 50 .eql 49 0,Yo 51 (.build (bys (z9c 32)++[bo false]) [(0,16,.s 46),(16,16,.s 47),(32,1,.s 50)]),Ys 33 10 10 51] .ret) (Yy [5,10,11,12]))) z1t))
def z0h:z3a:=
 Yq (Yr [5,10,30] [Ym 28 4,Yn 29 28,YB 30 .eql 29 0] (Yd 30 (YR [10] [.norm [5,10]] [Yo 31 (.build (bys (z9c 32)++[bo false]) []),Ys 33 10 10 31] .ret) (Yy [5,10]))) z7m
def z7c:z6e:=
 {n:=5,wr:=[],res:=[.cell 10 (some 33) 10],body:=YR [5,10] [.norm [5,10]] [Yx 5 5 16 0,Yo 10 (.alloc 10 (bys (z9c 32)++[bo false]))] (Yq (Yr [5,10,21] [Ym 16 1,Ym 17 2,Yb 18 .eql 16 17,Ym 19 18,YG 19 (Ym 20 3),Yp 21 19 20] (Yd 21 (YR [10] [.norm [5,10]] [YL 22 16 5 5,YL 23 16 5 5,Ym 24 4,Yn 25 24,YB 26 .eql 25 0,Yo 27 (.build (bys (z9c 32)++[bo false]) [(0,16,.s 22),(16,16,.s 23),(32,1,.s 26)]),Ys 33 10 10 27] .ret) (Yy [5,10]))) z0h)}
def z2d:z6e:=
 {n:=1,wr:=[],res:=[.t 2],body:=YR [1] [.norm [1]] [Yx 1 1 2 0,Yw 2 false] (YR [2] [.norm [1]] [Yf 3 0 1,Yl 4 1 3,YB 5 .geq 4 0,Ym 6 5,YG 6 (Yf 7 0 1),YG 6 (Yl 8 1 7),YG 6 (YB 9 .leq 8 4294967296),Yp 10 6 9,Ym 11 10,YG 11 (Yf 12 1 1),YG 11 (Yl 13 1 12),YG 11 (Yn 14 13),YG 11 (Yf 15 0 1),YG 11 (Yl 16 1 15),YG 11 (Yk 17 214 16),YG 11 (Yb 18 .eql 14 17),Yp 19 11 18,Ym 2 19] .ret)}
def z8J:z3a:=
 .block 1 (Yr [0,3] [Ym 6 3,Ym 7 0,YB 8 .rem 7 2,Yb 9 .add 6 8,Ym 3 9] (Yu [0,3] [Ym 10 0,YB 11 .quo 10 2,Ym 0 11]))
def z1x:z3a:=
 Yq (Yr [0,3,5] [Ym 4 0,YB 5 .gtr 4 0] (Yd 5 (Yy [0,3]) (YY [3]))) z8J
def z7J:z3a:=
 Yr [2] [Ym 12 3,Ym 2 12] .ret
def z5j:z6e:=
 {n:=1,wr:=[0],res:=[.t 2],body:=Yr [0] [Yc 2 0] (Yr [0,3] [Yc 3 0] (Yq (.block 0 (.loop z1x)) z7J))}
end Go.Abs
end

section
namespace Go.Abs
set_option maxRecDepth 100000
def z8nc:z5a:=⟨fun ds=>∃a b:List UInt8,a.length=16∧b.length=16∧ds=[.agg (bys a),.agg (bys b)],fun ds=> .agg (bys (z4j 2 [gBs (gCs (nth ds 0)),gBs (gCs (nth ds 1))]))⟩
theorem z6Pa {a b:List UInt8} (ha:a.length=16) (hb:b.length=16):z8nc.pre [.agg (bys a),.agg (bys b)]=True:=eq_true ⟨a,b,ha,hb,rfl⟩
@[simp] theorem z4ec (a b:List UInt8):z8nc.post [.agg (bys a),.agg (bys b)]= .agg (bys (z4j 2 [a,b])):=by simp[z8nc,nth]
theorem z2vd {t:Int} {nl:Option Bool} {a b:List UInt8} (h:a.length=16) (h':b.length=16):z0vb.pre [i64 t,.sl .plain nl 2 [st a,st b]]=True:=eq_true ⟨t,nl,[a,b],by simp[z8ja,h,h'],rfl⟩
theorem z7xd (t:Int) (m:z0ka) (nl:Option Bool) (a b:List UInt8):z0vb.post [i64 t,.sl m nl 2 [st a,st b]]= .agg (bys (z4j t [a,b])):=by
 show z2a.agg (bys (z4j t (gSs (sts [a,b]))))=_
 simp
theorem z9xd (E:Env) (h20:E.G 20=z0vb) (h23:E.G 23=z0pa):∀ds,z8nc.pre ds→ds.length=z3j.n∧awp E z3j.body (z0m z3j.res (z8nc.post ds)) (z3b z3j.wr ds):=by
 rintro _ ⟨a,b,ha,hb,rfl⟩
 rw[z4ec]
 have hl:=z1h 2 [a,b]
 simp(maxSteps:=1000000) (disch:=first|omega|(simp;done)|(simp;omega)) [z9a,z1a,z0a,z3j,h20,h23,z4Sb,z2vd,z7xd,ha,hb,z0g,z8a,hl]
/-! ### Splitting -/
theorem z1yc {n i:Nat} (h:2≤n) (hi:2^i<n) (hc:¬(2^i<n-2^i)):2^i=spl n:=by
 have h1:=z10 h
 have h2:=z5Z h
 unfold spl at*
 rw[z1Mb hi (by omega) h1 h2]
set_option maxHeartbeats 4000000 in
theorem z6Zc (E:Env):∀ds,z6Kb.pre ds→ds.length=z7k.n∧awp E z7k.body (z0m z7k.res (z6Kb.post ds)) (z3b z7k.wr ds):=by
 rintro _ ⟨n,h2,hn,rfl⟩
 rw[z5lb]
 simp(maxSteps:=1000000) (disch:=first|omega|(simp;done)|(simp;omega)) [z9a,z1a,z0a,z7k]
 refine z4a fun Q0 hQ0=> ?_
 refine z4e (fun i:Nat=>⟨[(0,i64 n)],[(3,i64 (2^i:Nat))],[]⟩) (fun i=>n-2^i) (fun i=>2^i<n) 0 rfl (by omega) fun i hi=> ?_
 refine z4a fun Q1 hQ1=> ?_
 by_cases h:2^i<n-2^i
 ·have hp:2^(i+1)=2*2^i:=by rw[Nat.pow_succ];omega
  have h0:=Nat.two_pow_pos i
  have e:(2:Int)*((2^i:Nat):Int)=((2^(i+1):Nat):Int):=by rw[hp];omega
  have hlt:((2^i:Nat):Int)<(n:Int)-((2^i:Nat):Int):=by omega
  generalize 2^i=a at*
  simp(maxSteps:=1000000) (disch:=first|omega|(simp;done)|(simp;omega)) [z9a,z1a,z0a,z4v,z0I,kT,kF,dT,dF,hlt,hQ1]
  refine⟨i+1,by omega,by omega,?_⟩
  rw[e];simp
 ·have e:=z1yc h2 hi h
  have hlt:¬((2^i:Nat):Int)<(n:Int)-((2^i:Nat):Int):=by omega
  rw[e] at hlt hi
  rw[e]
  simp(maxSteps:=1000000) (disch:=first|omega|(simp;done)|(simp;omega)) [z9a,z1a,z0a,z4v,z6I,kT,kF,dT,dF,hQ1,hQ0,hlt]
def z7Lc:z5a:=⟨fun ds=>∃n:Int,0≤n∧n≤4294967296∧ds=[i64 n],fun ds=>i64 (oN (asI (nth ds 0)).toNat)⟩
theorem z8tc {n:Int} (h:0≤n) (h':n≤4294967296):z7Lc.pre [i64 n]=True:=eq_true ⟨n,h,h',rfl⟩
@[simp] theorem z6hc (n:Int):z7Lc.post [i64 n]=i64 (oN n.toNat):=by simp[z7Lc]
def hlf:Nat→Nat→Nat|n,0=>n|n,i+1=>hlf n i/2
def cnt:Nat→Nat→Nat|_,0=>0|n,i+1=>cnt n i+hlf n i% 2
theorem z9bb (n:Nat):∀i,cnt n i+oN (hlf n i)=oN n
 |0=>by simp[cnt,hlf]
 |i+1=>by
  have:=z9bb n i
  rw[z86 (hlf n i)] at this
  simp only[cnt,hlf];omega
theorem z0Dc (n:Nat):∀i,hlf n i≤n
 |0=>Nat.le_refl _
 |i+1=>by have:=z0Dc n i;simp only[hlf];omega
theorem z7kc (E:Env):∀ds,z7Lc.pre ds→ds.length=z5j.n∧awp E z5j.body (z0m z5j.res (z7Lc.post ds)) (z3b z5j.wr ds):=by
 rintro _ ⟨n,h0,h1,rfl⟩
 rw[z6hc]
 obtain⟨m,rfl⟩:=Int.eq_ofNat_of_zero_le h0
 rw[Int.toNat_natCast]
 have hm:m≤4294967296:=by omega
 simp(maxSteps:=1000000) (disch:=first|omega|(simp;done)|(simp;omega)) [z9a,z1a,z0a,z5j]
 refine z4a fun Q0 hQ0=> ?_
 refine z4e (fun i:Nat=>⟨[],[(0,i64 (hlf m i)),(3,i64 (cnt m i))],[]⟩) (fun i=>hlf m i) (fun _=>True) 0 rfl trivial fun i hi=> ?_
 refine z4a fun Q1 hQ1=> ?_
 have hle:=z0Dc m i
 have hc:=z9bb m i
 have hc1:=z9bb m (i+1)
 have ho:=z4xd 33 m (by omega)
 by_cases h:0<hlf m i
 ·have hlt:(0:Int)<(hlf m i:Int):=by omega
  have et:((hlf m i:Nat):Int).tmod 2=((hlf m i% 2:Nat):Int):=rfl
  simp(maxSteps:=1000000) (disch:=first|omega|(simp;done)|(simp;omega)) [z9a,z1a,z0a,z1x,z8J,kT,kF,dT,dF,hlt,hQ1]
  refine⟨i+1,by simp only[hlf];omega,by simp only[hlf];omega,?_⟩
  simp only[et]
  first|(simp only[cnt];omega)|(rw[z9a (by omega) (by omega)];simp only[cnt];omega)
 ·have hz:hlf m i=0:=by omega
  rw[hz,z5C] at hc
  simp(maxSteps:=1000000) (disch:=first|omega|(simp;done)|(simp;omega)) [z9a,z1a,z0a,z1x,z7J,kT,kF,dT,dF,hQ1,hQ0,hz]
  omega
set_option maxHeartbeats 4000000 in
theorem z9Yc (E:Env) (h214:E.G 214=z7Lc):∀ds,z0db.pre ds→ds.length=z2d.n∧awp E z2d.body (z0m z2d.res (z0db.post ds)) (z3b z2d.wr ds):=by
 rintro _ ⟨n,nl,l,⟨hn1,hn2⟩,hl,hk,rfl⟩
 rw[show z0db.post [pkA n nl l]=bo (okP n l.length) from z3fa hl rfl rfl]
 unfold pkA z5w
 by_cases h0:0≤n
 ·by_cases h1:n≤4294967296
  ·simp(maxSteps:=1000000) (disch:=first|omega|(simp;done)|(simp;omega)) [z9a,z1a,z0a,z2d,h214,z8tc h0 h1,dT,dF,h0,h1]
   simp only[okP,dT h0,dT h1,Bool.true_and]
   by_cases e:l.length=oN n.toNat
   ·rw[e];simp
   ·rw[dF e];simp;omega
  ·simp(maxSteps:=1000000) (disch:=first|omega|(simp;done)|(simp;omega)) [z9a,z1a,z0a,z2d,h214,dT,dF,h0,h1]
   simp only[okP,dF h1];simp
 ·simp(maxSteps:=1000000) (disch:=first|omega|(simp;done)|(simp;omega)) [z9a,z1a,z0a,z2d,h214,dT,dF,h0]
  simp only[okP,dF h0];simp
/-! ### The same -/
set_option maxHeartbeats 4000000 in
theorem z5Xc (E:Env) (h20:E.G 20=z0vb) (h202:E.G 202=z8nc) (h211:E.G 211=z0db):∀ds,z6ub.pre ds→ds.length=z5g.n∧awp E z5g.body (z0m z5g.res (z6ub.post ds)) (z3b z5g.wr ds):=by
 rintro _ ⟨n,nl,l,hn,hl,hlen,rfl⟩
 rw[show z6ub.post [pkA n nl l]= .tup [.agg (bys (z4kb n l).1),i64 (z4kb n l).2] from z1Fa hl rfl rfl,z4kb]
 unfold pkA z5w
 have v1:=z9Ra (nl:=nl) hn hl hlen rfl rfl
 have v2:=z3fa (n:=n) (m:= .plain) (nl:=nl) hl rfl rfl
 by_cases ho:okP n l.length=true
 ·rw[if_pos ho]
  rw[ho] at v2
  have hz:(n=0)↔(l.length=0):=by
   simp only[okP,Bool.and_eq_true,decide_eq_true_eq] at ho
   obtain⟨⟨g0,_⟩,g2⟩:=ho
   constructor
   ·rintro rfl;rw[g2];exact z5C
   ·intro h
    have hn0:¬0<n.toNat:=fun h'=>by have:=z6wa h';omega
    omega
  by_cases h0:n=0
  ·rw[if_pos h0]
   have hll:l=[]:=List.length_eq_zero_iff.1 (hz.1 h0)
   subst h0 hll
   have hr:root []=z4j 1 []:=z1Ca (by decide)
   have hp:z0vb.pre [i64 1,.sl .plain (some true) 0 []]=True:=z7Sc (l:=[]) rfl (by simp[z8ja])
   have hq:z0vb.post [i64 1,.sl .plain (some true) 0 []]= .agg (bys (z4j 1 [])):=z1Hb 1 (some true) 0 []
   have hll:=z1h 1 []
   replace v1:z0db.pre [.agg [i64 0,.sl .plain nl 0 []]]=True:=v1
   replace v2:z0db.post [.agg [i64 0,.sl .plain nl 0 []]]=bo true:=v2
   simp(maxSteps:=1000000) (disch:=first|omega|(simp;done)|(simp;omega)) [z9a,z1a,z0a,z5g,h211,v1,v2,kT,kF,dT,dF,z9x,h20,hp,hq,hll,z8a,z0g hll,hr]
  ·rw[if_neg h0]
   have hpos:0<l.length:=by omega
   have hd:=z0q hl
   have hat:=z5wa hl (show l.length-1<l.length by omega)
   have hal:=z7I hl (show l.length-1<l.length by omega)
   have e1:((l.length:Int)-1).toNat=l.length-1:=by omega
   have b0:((l.length:Int)==0)=false:=beq_false_of_ne (by omega)
   simp(maxSteps:=1000000) (disch:=first|omega|(simp;done)|(simp;omega)) [z9a,z1a,z0a,z5g,h211,v1,v2,kT,kF,dT,dF,h0,z9x,z0R,e1,hd,hat,hal,z8a,b0]
   refine⟨⟨by omega,by omega⟩,by omega,?_⟩
   refine z4a fun Q0 hQ0=> ?_
   refine z4e (fun i:Nat=>⟨[(0,.agg [i64 n,.sl .plain nl l.length (bys (dgs l))])],[(1,.bp 1 0),(2,.bp 2 0),(4,.bp 4 0),(5,i64 ((l.length:Int)-2-i))],[(1,some [i64 n,.sl .plain nl l.length (bys (dgs l))]),(2,some (bys (z9c 16))),(4,some (bys (z3Aa l i)))]⟩) (fun i=>l.length-i) (fun i=>i≤l.length-1) 0 (by simp[z3Aa]) (Nat.zero_le _) fun i hi=> ?_
   refine z4a fun Q1 hQ1=> ?_
   have tl:=z9F hl hpos i
   have tk:=z0g tl
   by_cases h:i<l.length-1
   ·have hlt:(0:Int)≤(l.length:Int)-2-i:=by omega
    have e2:((l.length:Int)-2-i).toNat=l.length-2-i:=by omega
    have hat2:=z5wa hl (show l.length-2-i<l.length by omega)
    have hal2:=z7I hl (show l.length-2-i<l.length by omega)
    have es:z4j 2 [z8ga l (l.length-2-i),z3Aa l i]=z3Aa l (i+1):=rfl
    have tl1:=z9F hl hpos (i+1)
    simp(maxSteps:=1000000) (disch:=first|omega|(simp;done)|(simp;omega)) [z9a,z1a,z0a,z4z,z2Q,kT,kF,dT,dF,hlt,e2,hd,hat2,h202,z6Pa hal2 tl,tl,tk,es,tl1,z8a,hQ1]
    exact⟨⟨by omega,by omega⟩,by omega,i+1,by omega,by omega,by omega,rfl⟩
   ·have hlt:¬(0:Int)≤(l.length:Int)-2-i:=by omega
    have hii:i=l.length-1:=by omega
    subst hii
    simp(maxSteps:=1000000) (disch:=first|omega|(simp;done)|(simp;omega)) [z9a,z1a,z0a,z4z,z8N,kT,kF,dT,dF,hlt,tl,tk,z8a,hQ1,hQ0]
    skip
 ·rw[if_neg ho]
  have ho':okP n l.length=false:=by simpa using ho
  rw[ho'] at v2
  simp(maxSteps:=1000000) (disch:=first|omega|(simp;done)|(simp;omega)) [z9a,z1a,z0a,z5g,h211,v1,v2,kT,kF,z8a]
end Go.Abs
end

section
namespace Go.Abs
@[simp] theorem z95d (ps:List (Bool×Option Bool×List UInt8)):(mls ps).length=ps.length:=by simp[mls]
def atP (ps:List (Bool×Option Bool×List UInt8)) (i:Nat):Bool×Option Bool×List UInt8:=ps.getD i (true,none,[])
theorem z4fc {ps:List (Bool×Option Bool×List UInt8)} {i:Nat} (h:i<ps.length):atP ps i=ps[i]:=by simp[atP,List.getD,List.getElem?_eq_getElem h]
@[simp] theorem z72d (b:Bool) (nl:Option Bool) (n:Nat) (cs:List z2a):dem (.sl (mdA b) nl n cs)= .sl .plain nl n cs:=by cases b<;>rfl
theorem z6Ec {ps:List (Bool×Option Bool×List UInt8)} {i:Nat} (h:i<ps.length):hdA ((mls ps).drop i)= .sl (mdA (atP ps i).1) (atP ps i).2.1 (atP ps i).2.2.length (bys (atP ps i).2.2):=by
 rw[mls,←List.map_drop,List.drop_eq_getElem_cons h,List.map_cons,z4fc h]
 rfl
def z0ib (ps:List (Bool×Option Bool×List UInt8)):Nat:=(ps.map fun p=>p.2.2.length).sum
theorem z2Yc (ps:List (Bool×Option Bool×List UInt8)):z1Kc (ps.map (·.2))=z0ib ps:=by rw[z1Kc,z0ib,List.map_map];rfl
theorem z7Ob (a b:List (Bool×Option Bool×List UInt8)):z0ib (a++b)=z0ib a+z0ib b:=by
 induction a with
 |nil=>simp[z0ib]
 |cons x a ih=>simp only[z0ib,List.cons_append,List.map_cons,List.sum_cons] at ih⊢;omega
theorem z23a {ps:List (Bool×Option Bool×List UInt8)} {i:Nat} (h:i<ps.length):z0ib (ps.take (i+1))=z0ib (ps.take i)+(atP ps i).2.2.length:=by
 rw[List.take_succ_eq_append_getElem h,z7Ob,z4fc h]
 rfl
theorem z26 (ps:List (Bool×Option Bool×List UInt8)) (i:Nat):z0ib (ps.take i)≤z0ib ps:=by
 have:=z7Ob (ps.take i) (ps.drop i)
 rw[List.take_append_drop] at this
 omega
theorem z5fb {ps:List (Bool×Option Bool×List UInt8)} {i:Nat} (h:i<ps.length):(ps.take (i+1)).flatMap (·.2.2)=(ps.take i).flatMap (·.2.2)++(atP ps i).2.2:=by
 rw[List.take_succ_eq_append_getElem h,List.flatMap_append,List.flatMap_cons,List.flatMap_nil,List.append_nil,z4fc h]
theorem z71c (ps:List (Bool×Option Bool×List UInt8)):(ps.flatMap (·.2.2)).length=z0ib ps:=by simp[z0ib,List.length_flatMap]
theorem z9Xb (E:Env) (h139:E.G 139=z7ob):∀ds,z1y.pre ds→ds.length=z0p.n∧awp E z0p.body (z0m z0p.res (z1y.post ds)) (z3b z0p.wr ds):=by
 rintro _ ⟨nl,ps,ht,hps,rfl⟩
 rw[z4oa]
 rw[z2Yc] at ht
 simp(maxSteps:=1000000) (disch:=first|omega|(simp;done)|(simp;omega)) [z9a,z1a,z0a,z0p,z05,z24]
 refine z4a fun Q0 hQ0=> ?_
 simp(maxSteps:=1000000) (disch:=first|omega|(simp;done)|(simp;omega)) [z9a,z1a,z0a,z16]
 refine z4e (fun i:Nat=>⟨[(0,.sl .plain nl ps.length (mls ps))],[(3,i64 (z0ib (ps.take i):Nat)),(9,.sl .plain nl ps.length (mls ps)),(10,i64 ps.length),(11,i64 i)],[]⟩)
  (fun i=>ps.length-i) (fun i=>i≤ps.length) 0 (by simp[z0ib]) (by simp) fun i hi=> ?_
 refine z4a fun Q1 hQ1=> ?_
 have tl:=z26 ps i
 by_cases h1:i<ps.length
 ·have ts:=z23a h1
  have tl':=z26 ps (i+1)
  generalize hX:atP ps i=x at*
  obtain⟨xm,xn,xb⟩:=x
  simp only at ts
  have hneg:¬((z0ib (ps.take i):Int)+xb.length<0):=by omega
  simp(maxSteps:=1000000) (disch:=first|omega|(simp;done)|(simp;omega)) [z9a,z1a,z0a,z3H,z3I,z82,z85,z15,z03,kT,kF,dT,dF,h1,z6Ec,hX,hQ1,hneg]
  exact⟨by omega,i+1,by omega,by omega,by omega,by omega⟩
 ·obtain rfl:i=ps.length:=by omega
  simp(maxSteps:=1000000) (disch:=first|omega|(simp;done)|(simp;omega)) [z9a,z1a,z0a,z3H,z3I,kT,kF,dT,dF,hQ1,hQ0,z72,z64,z61,h139,z4kc]
  refine z4e (fun i:Nat=>⟨[(0,.sl .plain nl ps.length (mls ps))],[(6,.sl (.own 1) none ((ps.take i).flatMap (·.2.2)).length (bys ((ps.take i).flatMap (·.2.2)))),(25,.sl .plain nl ps.length (mls ps)),(26,i64 ps.length),(27,i64 i)],[]⟩)
   (fun i=>ps.length-i) (fun i=>i≤ps.length) 0 (by simp) (by simp) fun i hi=> ?_
  refine z4a fun Q2 hQ2=> ?_
  have tl:=z26 ps i
  by_cases h1:i<ps.length
  ·have cs:=z5fb h1
   have cl:=z71c (ps.take (i+1))
   have tl':=z26 ps (i+1)
   generalize hX:atP ps i=x at*
   obtain⟨xm,xn,xb⟩:=x
   simp only at cs
   generalize hF:(ps.take i).flatMap (·.2.2)=F at*
   simp(maxSteps:=1000000) (disch:=first|omega|(simp;done)|(simp;omega)) [z9a,z1a,z0a,z6G,z4C,z1Y,z8Y,kT,kF,dT,dF,h1,z6Ec,hX,hQ2]
   have e:z0ib (ps.take (i+1))=(List.take (i+1) (List.map (fun a=>a.2.2.length) ps)).sum:=by rw[z0ib,List.map_take]
   rw[cs,List.length_append] at cl
   exact⟨by omega,by omega,i+1,by omega,by omega,⟨by rw[←e];exact cl,cs.symm⟩,by omega⟩
  ·obtain rfl:i=ps.length:=by omega
   simp(maxSteps:=1000000) (disch:=first|omega|(simp;done)|(simp;omega)) [z9a,z1a,z0a,z6G,z4C,kT,kF,dT,dF,hQ2,z7Z]
end Go.Abs
end

section
namespace Go.Abs
set_option maxRecDepth 100000
def atD (l:List z2q) (i:Nat):z2q:=l.getD i mad0
theorem z0ab {l:List z2q} {i:Nat} (h:i<l.length):atD l i=l[i]:=by simp[atD,List.getD,List.getElem?_eq_getElem h]
theorem z3yb {l:List z2q} {i:Nat} (h:i<l.length):atD l i∈l:=by rw[z0ab h];exact List.getElem_mem h
theorem z9Ic {l:List z2q} (h:z9T l) {i:Nat} (hi:i<l.length):((z9n l).drop (i*24)).take 24=z6B (atD l i):=by
 have e1:=z3ga (enc:=z6B) (P:=z5xb) (w:=24) (fun a ha=>z0A ha) l i (z4s h)
 have hd:=z4s h _ (List.getElem_mem hi)
 rw[show z9n l=l.flatMap z6B from rfl,e1,List.drop_eq_getElem_cons hi,List.flatMap_cons,List.take_left' (z0A hd),z0ab hi]
/-! ### a key's cells, by name -/
@[simp] theorem mad_0 (m:z2q):hdA (z6B m)=i64 m.id:=rfl
@[simp] theorem mad_1 (m:z2q):hdA ((z6B m).drop 1)=i64 m.ty:=rfl
@[simp] theorem mad_1t (m:z2q):hdA (z6B m).tail=i64 m.ty:=rfl
@[simp] theorem mad_2 (m:z2q):hdA ((z6B m).drop 2)=i64 m.uses:=rfl
@[simp] theorem mad_3 (m:z2q):hdA ((z6B m).drop 3)=i64 m.beg:=rfl
@[simp] theorem mad_4 (m:z2q):hdA ((z6B m).drop 4)=i64 m.fin:=rfl
@[simp] theorem mad_5 (m:z2q):hdA ((z6B m).drop 5)=i64 m.ver:=rfl
@[simp] theorem mad_6 (m:z2q):hdA ((z6B m).drop 6)=i64 m.par:=rfl
@[simp] theorem mad_7 (m:z2q):hdA ((z6B m).drop 7)=bo m.raw:=rfl
@[simp] theorem mad_8 (m:z2q):(z6B m).drop 8=bys m.dig:=rfl
theorem z8Qa (m:z2q):(∀c∈z6B m,z0d c)=True:=eq_true fun c hc=>(z6Ra c hc).2
theorem z3bb (m:z2q):(∀c∈z6B m,z5e c=false)=True:=eq_true fun c hc=>by
 rcases List.mem_append.1 hc with h|h
 ·simp only[List.mem_cons,List.not_mem_nil,or_false] at h
  rcases h with rfl|rfl|rfl|rfl|rfl|rfl|rfl|rfl<;>rfl
 ·simp only[bys,List.mem_map] at h
  obtain⟨x,_,rfl⟩:=h
  rfl
theorem z0xd {m:z2q} (h:m.dig.length=16):(z6B m).take 24=z6B m:=List.take_of_length_le (by rw[z0A h];exact Nat.le_refl _)
theorem z7fc {m:z2q} (h:m.dig.length=16) {zs:List z2a} (hz:zs.length=24):splice zs 0 (z6B m)=z6B m:=z8a (by rw[z0A h,hz])
@[simp] theorem z1Sd (m:z2q):z3f (z6B m)=true:=(z7g _).2 fun c hc=>(z6Ra c hc).1
@[simp] theorem z4Ud (m:z2q):z9f (z6B m)=[]:=by simp[z6B,z9f]
end Go.Abs
end

section
namespace Go.Abs
/-! ### structs that are built, step by step -/
def z30c (get:Nat→z2a) (n:Nat):z2a:=dem (get n)
@[simp] theorem z3ce (get:Nat→z2a) (n:Nat):z30c get n=dem (get n):=rfl
@[simp ↓ high] theorem z1Td (E:Env) (get:Nat→z2a) (getB:Nat→Option (List z2a)) (z:List z2a) (ps:List (Nat×Nat×Arg)):eff E get getB (.build z ps)={val:= .agg (z2B E (z30c get) ps z)}:=rfl
@[simp ↓ high] theorem z4Xd (E:Env) (get:Nat→z2a) (getB:Nat→Option (List z2a)) (z:List z2a) (ps:List (Nat×Nat×Arg)):okp E get getB (.build z ps)=z5A E (z30c get) ps z.length:=rfl
def z36d (d dd:z2a) (cs:List z2a) (i s:Nat):Eff:=match d with| .sl (.own e) nl n c=>{val:= .oagg (cs.take i) e nl n c (cs.drop (i+1)),sl:=[(s,dd)]}|_=>{val:= .undef}
@[simp] theorem z90d (e:Nat) (nl:Option Bool) (n:Nat) (c:List z2a) (dd:z2a) (cs:List z2a) (i s:Nat):z36d (.sl (.own e) nl n c) dd cs i s={val:= .oagg (cs.take i) e nl n c (cs.drop (i+1)),sl:=[(s,dd)]}:=rfl
@[simp ↓ high] theorem z9Rd (E:Env) (get:Nat→z2a) (getB:Nat→Option (List z2a)) (z:List z2a) (ps:List (Nat×Nat×Arg)) (i s:Nat):eff E get getB (.buildO z ps i s)=z36d (get s) (dem (get s)) (z2B E (z30c get) (ps++[(i,1,.s s)]) z) i s:=by
 simp only[eff,z36d]
 rfl
@[simp ↓ high] theorem z3Zd (E:Env) (get:Nat→z2a) (getB:Nat→Option (List z2a)) (z:List z2a) (ps:List (Nat×Nat×Arg)) (i s:Nat):okp E get getB (.buildO z ps i s)=(z5A E (z30c get) (ps++[(i,1,.s s)]) z.length∧(match get s with| .sl (.own _) _ _ _=>True|_=>False)):=rfl
@[simp ↓ high] theorem z8Sd (E:Env) (d:Nat) (z:List z2a) (ps:List (Nat×Nat×Arg)) (i s:Nat) (o e:List (Nat×z2a)) (b:List (Nat×Option (List z2a))):okA E ⟨some d,none,.buildO z ps i s⟩ ⟨o,e,b⟩=
  ((lk o d=none∧lk o s=none)∧z5A E (z30c (ASt.get ⟨o,e,b⟩)) (ps++[(i,1,.s s)]) z.length∧(match ASt.get ⟨o,e,b⟩ s with| .sl (.own _) _ _ _=>True|_=>False)):=by
 have h:(∀x∈[d,s],lk o x=none)=(lk o d=none∧lk o s=none):=by simp
 rw[←h];rfl
@[simp ↓ high] theorem z8Yd (E:Env) (d:Nat) (z:List z2a) (ps:List (Nat×Nat×Arg)) (o e:List (Nat×z2a)) (b:List (Nat×Option (List z2a))):okA E ⟨some d,none,.build z ps⟩ ⟨o,e,b⟩=
  (lk o d=none∧z5A E (z30c (ASt.get ⟨o,e,b⟩)) ps z.length):=by
 have h:(∀x∈[d],lk o x=none)=(lk o d=none):=by simp
 rw[←h];rfl
def z0nc (b:Bool):List Nat→List z2b→Option (List Nat)
 |ks,[]=>some ks
 |ks,⟨some d,some (t,w),op⟩::xs=>if ks.contains t&&(w !=b)&&op.wrS.isEmpty then z0nc b (ks.filter (· !=d)) xs else none
 |ks,⟨some d,none,.mv false (.s t)⟩::xs=>if ks.contains t then z0nc b (d::ks) xs else none
 |ks,⟨some d,none,.pick (.s t) (.c (.lit (.bool x))) (.s _)⟩::xs=>if ks.contains t&&b&&x then z0nc b (d::ks) xs else none
 |ks,⟨some d,none,.pick (.s t) (.s _) (.c (.lit (.bool x)))⟩::xs=>if ks.contains t&& !b&& !x then z0nc b (d::ks) xs else none
 |_,_=>none
def wrT (xs:List z2b):List Nat:=xs.flatMap fun o=>o.dst.toList
structure z9Oc (b:Bool) (ks:List Nat) (ws:List Nat) (st st':ASt):Prop where
 org:st'.org=st.org
 box:st'.box=st.box
 val:∀s∈ks,st'.get s=bo b
 same:∀s,s∉ws→st'.get s=st.get s
theorem z9kc (o:List (Nat×z2a)) (d:Nat) (v:z2a) (e:List (Nat×z2a)) (b:List (Nat×Option (List z2a))) (s:Nat):ASt.get ⟨o,(d,v)::e,b⟩ s=if s=d then v else ASt.get ⟨o,e,b⟩ s:=by
 by_cases h:s=d
 ·simp only[ASt.get,lk,if_pos h]
 ·simp only[ASt.get,lk,if_neg h]
theorem z7Fb (E:Env) (b:Bool):∀(xs:List z2b) (ks ks':List Nat) (st:ASt),z0nc b ks xs=some ks'→(∀s∈ks,st.get s=bo b)→(∀s∈wrT xs,lk st.org s=none)→z6V E xs st∧z9Oc b ks' (wrT xs) st (z1ga E xs st)
 |[],ks,ks',st,hc,hk,_=>by
  simp only[z0nc,Option.some.injEq] at hc
  subst hc
  exact⟨trivial,rfl,rfl,hk,fun _ _=>rfl⟩
 |o::xs,ks,ks',st,hc,hk,ho=>by
  have one:∀(d:Nat) (v:z2a) (ks1:List Nat),o.dst=some d→okA E o st→z8e E o st=⟨st.org,(d,v)::st.env,st.box⟩→z0nc b ks1 xs=some ks'→(∀s∈ks1,s=d→v=bo b)→(∀s∈ks1,s≠d→s∈ks)→z6V E (o::xs) st∧z9Oc b ks' (wrT (o::xs)) st (z1ga E (o::xs) st):=by
   intro d v ks1 hd hok hst hc1 h1 h2
   have hg:∀s,ASt.get ⟨st.org,(d,v)::st.env,st.box⟩ s=if s=d then v else st.get s:=fun s=>z9kc _ _ _ _ _ _
   obtain⟨k1,k2⟩:=z7Fb E b xs ks1 ks' ⟨st.org,(d,v)::st.env,st.box⟩ hc1 (fun s hs=>by
    rw[hg]
    split
    ·rename_i e;exact h1 s hs e
    ·rename_i e;exact hk s (h2 s hs e)) (fun s hs=>ho s (by simp only[wrT,List.flatMap_cons,List.mem_append];exact .inr hs))
   refine⟨⟨hok,by rw[hst];exact k1⟩,?_⟩
   show z9Oc b ks' (wrT (o::xs)) st (z1ga E xs (z8e E o st))
   rw[hst]
   refine⟨k2.org,k2.box,k2.val,fun s hs=> ?_⟩
   simp only[wrT,List.flatMap_cons,List.mem_append,not_or] at hs
   rw[k2.same s hs.2,hg,if_neg]
   intro e
   apply hs.1
   rw[hd,e]
   simp
  have hW:∀d,o.dst=some d→o.op.wrS=[]→∀s∈o.W,lk st.org s=none:=fun d hd hw s hs=>by
   apply ho
   simp only[z2b.W,hd,hw,List.append_nil,Option.toList_some,List.mem_singleton] at hs
   simp only[wrT,List.flatMap_cons,List.mem_append,hd,hs]
   exact .inl (by simp)
  unfold z0nc at hc
  split at hc
  ·cases xs<;>simp at*
  ·rename_i ks0 d t w op xs0 e
   simp only[List.cons.injEq] at e
   obtain⟨rfl,rfl⟩:=e
   split at hc
   ·rename_i hh
    simp only[Bool.and_eq_true,List.contains_eq_mem,decide_eq_true_eq,bne_iff_ne,List.isEmpty_iff] at hh
    obtain⟨⟨h1,h2⟩,h3⟩:=hh
    have hv:=hk t h1
    have hgate:z6gb (st.get t) w=false:=by rw[hv,z5Tc];exact beq_eq_false_iff_ne.2 (Ne.symm h2)
    refine one d z4ia _ rfl ⟨hW d rfl h3,.inl (by rw[hv];trivial),fun e=>by rw[hgate] at e;cases e⟩ ?_ hc ?_ ?_
    ·simp only[z8e,hgate,Bool.false_eq_true,if_false,Option.toList_some,List.map_cons,List.map_nil,List.cons_append,List.nil_append]
    ·intro s hs e
     simp[e] at hs
    ·intro s hs e
     simp only[List.mem_filter] at hs
     exact hs.1
   ·cases hc
  ·rename_i ks0 d t xs0 e
   simp only[List.cons.injEq] at e
   obtain⟨rfl,rfl⟩:=e
   split at hc
   ·rename_i hh
    simp only[List.contains_eq_mem,decide_eq_true_eq] at hh
    have hv:=hk t hh
    refine one d (bo b) _ rfl ⟨hW d rfl rfl,trivial⟩ ?_ hc (fun _ _ _=>rfl) (fun s hs e=>by simpa[e] using hs)
    simp only[z8e,eff,arg,hv,Option.toList_some,List.map_cons,List.map_nil,List.cons_append,List.nil_append]
    rfl
   ·cases hc
  ·rename_i ks0 d t x y xs0 e
   simp only[List.cons.injEq] at e
   obtain⟨rfl,rfl⟩:=e
   split at hc
   ·rename_i hh
    simp only[Bool.and_eq_true,List.contains_eq_mem,decide_eq_true_eq] at hh
    obtain⟨⟨h1,rfl⟩,rfl⟩:=hh
    have hv:=hk t h1
    refine one d (bo true) _ rfl ⟨hW d rfl rfl,?_⟩ ?_ hc (fun _ _ _=>rfl) (fun s hs e=>by simpa[e] using hs)
    ·simp only[okp,arg,hv];trivial
    ·simp only[z8e,eff,arg,hv,Option.toList_some,List.map_cons,List.map_nil,List.cons_append,List.nil_append]
     rfl
   ·cases hc
  ·rename_i ks0 d t y x xs0 e
   simp only[List.cons.injEq] at e
   obtain⟨rfl,rfl⟩:=e
   split at hc
   ·rename_i hh
    simp only[Bool.and_eq_true,List.contains_eq_mem,decide_eq_true_eq,Bool.not_eq_true'] at hh
    obtain⟨⟨h1,rfl⟩,rfl⟩:=hh
    have hv:=hk t h1
    refine one d (bo false) _ rfl ⟨hW d rfl rfl,?_⟩ ?_ hc (fun _ _ _=>rfl) (fun s hs e=>by simpa[e] using hs)
    ·simp only[okp,arg,hv];trivial
    ·simp only[z8e,eff,arg,hv,Option.toList_some,List.map_cons,List.map_nil,List.cons_append,List.nil_append]
     rfl
   ·cases hc
  ·cases hc
theorem z7Rc (f:Nat→z2a) (keep:List Nat) (o:List (Nat×z2a)) (bx:List (Nat×Option (List z2a))) {x:Nat} (hx:x∈keep):ASt.get ⟨o,keep.map fun x=>(x,f x),bx⟩ x=f x:=by
 have h:=z4f f x keep
 rw[if_pos hx] at h
 simp only[ASt.get,h]
theorem z1d {E:Env} {keep:List Nat} {gs:List z9t} {Q:z7h→ASt→Prop} {xs ys:List z2b} {st:ASt} (h:∀T,T=ys→z6xb E keep gs Q (xs++T) st):z6xb E keep gs Q (xs++ys) st:=h ys rfl
theorem z3cd (E:Env) (id:Nat) (b:z3a) (Q:z7h→ASt→Prop) (s:ASt):awp E (.block id b) Q s=awp E b (z1Na id Q) s:=rfl
theorem z4W {E:Env} {Q:z7h→ASt→Prop} {s:ASt} {a b:z3a} (h:∀B,B=b→awp E (.seq a B) Q s):awp E (.seq a b) Q s:=h b rfl
def vdG (b:Bool) (d:Nat) (st:ASt) (x:Nat):z2a:=if x=d then bo b else st.get x
@[simp] theorem vdG_eq (b:Bool) (d:Nat) (st:ASt) (x:Nat):vdG b d st x=if x=d then bo b else st.get x:=rfl
theorem z4mb (f:Nat→z2a):∀l:List Nat,z94a f l=l.map fun s=>(s,f s)
 |[]=>rfl
 |s::l=>by simp only[z94a,List.map_cons,z4mb f l]
theorem z5c {E:Env} {keep:List Nat} {gs:List z9t} {Q:z7h→ASt→Prop} {xs:List z2b} {o e:List (Nat×z2a)} {bx:List (Nat×Option (List z2a))} (b:Bool) (s d:Nat) (hs:ASt.get ⟨o,e,bx⟩ s=bo b)
  (hc:((z0nc b [s] xs).any fun ks=>ks.contains d&&keep.all fun x=>x==d|| !(wrT xs).contains x)=true) (ho:((wrT xs).all fun x=>(lk o x).isNone)=true)
  (h:z6xb E keep gs Q [] ⟨o,z94a (vdG b d ⟨o,e,bx⟩) keep,bx⟩):z6xb E keep gs Q xs ⟨o,e,bx⟩:=by
 rw[z4mb] at h
 simp only[vdG] at h
 simp only[Option.any_eq_true,Bool.and_eq_true,List.contains_eq_mem,decide_eq_true_eq,List.all_eq_true,Bool.or_eq_true,beq_iff_eq,Bool.not_eq_true',decide_eq_false_iff_not] at hc
 obtain⟨ks,h1,h2,h3⟩:=hc
 simp only[List.all_eq_true,Option.isNone_iff_eq_none] at ho
 obtain⟨k1,k2⟩:=z7Fb E b xs [s] ks ⟨o,e,bx⟩ h1 (fun x hx=>by rw[List.mem_singleton.1 hx];exact hs) ho
 rw[z39a] at h⊢
 simp only[z6V,z1ga,true_and] at h
 refine⟨k1,?_⟩
 have:z32 keep (z1ga E xs ⟨o,e,bx⟩)=z32 keep ⟨o,keep.map fun x=>(x,if x=d then bo b else ASt.get ⟨o,e,bx⟩ x),bx⟩:=by
  unfold z32
  rw[k2.org,k2.box]
  simp only[ASt.mk.injEq,true_and,and_true]
  refine List.map_congr_left fun x hx=> ?_
  have hg:ASt.get ⟨o,keep.map fun x=>(x,if x=d then bo b else ASt.get ⟨o,e,bx⟩ x),bx⟩ x=if x=d then bo b else ASt.get ⟨o,e,bx⟩ x:=by
   exact z7Rc _ keep o bx hx
  rw[hg]
  rcases h3 x hx with rfl|h4
  ·rw[if_pos rfl,k2.val x h2]
  ·split
   ·rename_i e;rw[e,k2.val d h2]
   ·rw[k2.same x h4]
 rw[this]
 exact h
end Go.Abs
end
