/- Lemmas: an abstract interpreter, and what the functions compute. -/
import Derived.Test.YtepddcbbkhdfiaaGreatDoorH
import Derived.Test.YtepddcbbkhdfiaaGreatDoorG
import Derived.Test.YtepddcbbkhdfiaaGreatDoorN
import Derived.Test.YtepddcbbkhdfiaaGreatDoorK
import Derived.Test.YtepddcbbkhdfiaaGreatDoorQ
import Derived.Test.YtepddcbbkhdfiaaGreatDoorR
import Derived.KernelRfl
import Derived.Test.YtepddcbbkhdfiaaGreatDoorS
set_option linter.unusedSimpArgs false
set_option linter.unusedVariables false
set_option linter.unusedSectionVars false
section
namespace Go.Abs
set_option maxRecDepth 100000
def z9Fa:z1c:=
 YR [4,21,22] [.norm [4,5,9,11,13,15,21]] [YL 115 3 4 4,Ym 116 2,YK 117 348 115 116,Ym 114 117,Ye 118 0 114,Ye 119 1 114,YH 21 21,Ys 2 21 21 118,Ym 22 119] (YR [4,21,22,23,24] [.norm [4,5,9,11,13,15,21,23]] [YL 121 3 4 4,Ym 122 2,YK 123 379 121 122,Ym 120 123,Ye 124 0 120,Ye 125 1 120,YH 23 23,Ys 2 23 23 124,Ym 24 125] (YR [4,21,22,23,24,25,26] [.norm [4,5,9,11,13,15,21,23,25]] [YL 127 3 4 4,Ym 128 3,YK 129 359 127 128,Ym 126 129,Ye 130 0 126,Ye 131 1 126,Yh 25 25,Ys 3 25 25 130,Ym 26 131] (YR [4,21,22,23,24,25,26,27,28] [.norm [4,5,9,11,13,15,21,23,25,27]] [YL 133 3 4 4,Ym 134 3,YK 135 385 133 134,Ym 132 135,Ye 136 0 132,Ye 137 1 132,Yh 27 27,Ys 3 27 27 136,Ym 28 137] (YR [8] [.norm [4,5,9,11,13,15,21,23,25,27]] [YT 138 391 [],Ym 139 138,YG 139 (YL 140 2 21 21),YG 139 (YL 141 2 23 23),YG 139 (YK 142 209 140 141),Yp 143 139 142,Ym 144 143,YG 144 (Ym 145 22),YG 144 (Ym 146 24),YG 144 (Yb 147 .eql 145 146),Yp 148 144 147,Ym 149 148,YG 149 (YL 150 3 25 25),YG 149 (YL 151 3 27 27),YG 149 (YK 152 384 150 151),Yp 153 149 152,Ym 154 153,YG 154 (Ym 155 26),YG 154 (Ym 156 28),YG 154 (Yb 157 .eql 155 156),Yp 158 154 157,Ym 159 158,YG 159 (YL 160 3 4 4),YG 159 (Yk 161 349 160),YG 159 (YL 162 3 4 4),YG 159 (Yk 163 375 162),YG 159 (Yb 164 .eql 161 163),Yp 165 159 164,Ym 166 165,YG 166 (YL 167 3 4 4),YG 166 (Yk 168 355 167),YG 166 (YL 169 3 4 4),YG 166 (Yk 170 386 169),YG 166 (Yo 171 (.eqF (ks8 16) false (.s 168) (.s 170))),Yp 172 166 171,Ym 8 172] .ret))))
def z0Ga:z1c:=
 YR [4,5,9,10] [.norm [4,5,9]] [YL 46 3 4 4,YL 47 30 5 5,YK 48 357 46 47,Ym 45 48,Ye 49 0 45,Ye 50 1 45,Yh 9 9,Ys 3 9 9 49,Ym 10 50] (YR [4,9,10,11,12] [.norm [4,5,9,11]] [YL 52 3 4 4,YL 53 30 5 5,YK 54 378 52 53,Ym 51 54,Ye 55 0 51,Ye 56 1 51,Yh 11 11,Ys 3 11 11 55,Ym 12 56] (YR [4,9,10,11,12,13,14] [.norm [4,5,9,11,13]] [YL 58 3 4 4,Ym 59 2,Ym 60 3,Yt 61 360 58 59 60,Ym 57 61,Ye 62 0 57,Ye 63 1 57,Yh 13 13,Ys 3 13 13 62,Ym 14 63] (YR [4,9,10,11,12,13,14,15,16] [.norm [4,5,9,11,13,15]] [YL 65 3 4 4,Ym 66 2,Ym 67 3,Yt 68 381 65 66 67,Ym 64 68,Ye 69 0 64,Ye 70 1 64,Yh 15 15,Ys 3 15 15 69,Ym 16 70] (YR [4,9,10,11,12,13,14,15,16,17,18] [.norm [4,5,9,11,13,15]] [YL 72 3 4 4,Ym 73 3,YK 74 353 72 73,Ym 71 74,Ye 75 0 71,Ye 76 1 71,YM 17 75,Ym 18 76] (YR [4,9,10,11,12,13,14,15,16,17,18,19,20] [.norm [4,5,9,11,13,15]] [YL 78 3 4 4,Ym 79 3,YK 80 380 78 79,Ym 77 80,Ye 81 0 77,Ye 82 1 77,YM 19 81,Ym 20 82] (Yq (YR [4,113] [.norm [4,5,9,11,13,15]] [YL 83 3 9 9,YL 84 3 11 11,YK 85 384 83 84,YU 86 .not 85,Ym 87 86,Yg 87 (Ym 88 10),Yg 87 (Ym 89 12),Yg 87 (Yb 90 .neq 88 89),YP 91 87 90,Ym 92 91,Yg 92 (YL 93 3 13 13),Yg 92 (YL 94 3 15 15),Yg 92 (YK 95 377 93 94),Yg 92 (YU 96 .not 95),YP 97 92 96,Ym 98 97,Yg 98 (Ym 99 14),Yg 98 (Ym 100 16),Yg 98 (Yb 101 .neq 99 100),YP 102 98 101,Ym 103 102,Yg 103 (Ym 104 17),Yg 103 (Ym 105 19),Yg 103 (YK 106 60 104 105),Yg 103 (YU 107 .not 106),YP 108 103 107,Ym 109 108,Yg 109 (Ym 110 18),Yg 109 (Ym 111 20),Yg 109 (Yb 112 .neq 110 111),YP 113 109 112] (Yd 113 (Yr [8] [Yw 8 false] .ret) (Yy [4]))) z9Fa))))))
def z8qa:z1ka:=
 {n:=4,wr:=[],res:=[.t 8],body:=YR [4,5] [.norm [4,5]] [Yx 4 4 3 0,Yx 5 5 30 1,Yw 8 false] (Yq (YR [4,5,43] [.norm [4,5]] [Yf 29 2 4,Yl 30 4 29,Yk 31 389 30,YU 32 .not 31,Ym 33 32,Yg 33 (YL 34 30 5 5),Yg 33 (Yo 35 (.buildSl 30 1 [i64 0,i64 0,i64 0,i64 0,i64 0,i64 0,i64 0,i64 0,i64 0,i64 0,st [],.sl .plain none 0 [],u8 0,u8 0,u8 0,u8 0,u8 0,u8 0,u8 0,u8 0,u8 0,u8 0,u8 0,u8 0,u8 0,u8 0,u8 0,u8 0,.sl .plain none 0 [],.sl .plain none 0 []] [(0,30,.s 34)])),Yg 33 (Yk 36 389 35),Yg 33 (YU 37 .not 36),YP 38 33 37,Ym 39 38,Yg 39 (YL 40 3 4 4),Yg 39 (Yk 41 390 40),Yg 39 (YU 42 .not 41),YP 43 39 42] (Yd 43 (Yr [8] [YT 44 391 [],Ym 8 44] .ret) (Yy [4,5]))) z0Ga)}
def z27a:z1c:=
 Yq (.block 1 (YR [3,5,6,7,8] [.norm [5]] [Yi 10 30 6 8,YJ 11 30 10,Yo 5 (.alloc 5 (List.replicate 10 (i64 0)++[st []]++[.sl .plain none 0 []]++bys (z5j 16)++[.sl (.own 24) none 0 []]++[.sl (.own 1) none 0 []])),Ys 30 5 5 11] (.region [3,6,7,8] [.norm [5]] [Ym 12 3,Yf 13 28 5,Yl 14 5 13,Yn 15 14,Yo 16 (.bin .add (.c (i64 1)) (.s 15)),Yf 17 29 5,Yl 18 5 17,Yn 19 18,Yb 20 .add 16 19,Yf 21 4 5,Yf 22 7 21,Yl 23 5 22,Yn 24 23,Yb 25 .add 20 24,Yf 26 4 5,Yf 27 6 26,Yl 28 5 27,Yo 29 (.len true (.s 28)),YB 30 .quo 29 100,Yb 31 .add 25 30,Yb 32 .add 12 31,Ym 3 32]))) (.region [3,6,7,8] [.drop [5]] [YB 33 .add 8 1,Ym 8 33])
def z3Na:z1c:=
 Yr [3,6,7,8,9] [Yb 9 .lss 8 7] (Yq (Yd 9 (Yy [3,6,7,8]) (YY [3])) z27a)
def z57a:z1c:=
 Yr [2] [Ym 34 3,YB 35 .leq 34 200,Ym 2 35] .ret
def z3wa:z1ka:=
 {n:=1,wr:=[],res:=[.t 2],body:=Yr [] [Yw 2 false] (Yr [3] [Yc 3 0] (Yq (Yr [3,6,7,8] [Ym 6 0,Yn 7 6,Yc 8 0] (.block 0 (.loop z3Na))) z57a))}
def z6ya:z1c:=
 Yq (.block 1 (YR [1,3,4,6,7,8] [.norm [1,4]] [Ym 10 8,Yi 11 30 6 8,YJ 12 30 11,Yo 4 (.alloc 4 (List.replicate 10 (i64 0)++[st []]++[.sl .plain none 0 []]++bys (z5j 16)++[.sl (.own 24) none 0 []]++[.sl (.own 1) none 0 []])),Ym 3 10,Ys 30 4 4 12] (YR [1,6,7,8,31] [.norm [1,4]] [YL 13 30 4 4,Yk 14 331 13,YU 15 .not 14,Ym 16 15,Yg 16 (Ym 17 3),Yg 16 (YB 18 .gtr 17 0),Yg 16 (Ym 19 18),YG 19 (Yf 20 0 4),YG 19 (Yl 21 4 20),YG 19 (Yf 22 2 1),YG 19 (Yl 23 1 22),YG 19 (Ym 24 3),YG 19 (YB 25 .sub 24 1),YG 19 (Yi 26 30 23 25),YG 19 (Yf 27 0 26),YG 19 (Yj 28 27),YG 19 (Yb 29 .lss 21 28),Yg 16 (Yp 30 19 29),YP 31 16 30] (Yd 31 (Yr [2] [Yw 2 false] .ret) (Yy [1,6,7,8]))))) (.region [1,6,7,8] [.drop [4]] [YB 32 .add 8 1,Ym 8 32])
def z9ta:z1c:=
 Yr [1,6,7,8,9] [Yb 9 .lss 8 7] (Yq (Yd 9 (Yy [1,6,7,8]) (YY [1])) z6ya)
def z7Ia:z1c:=
 YR [2] [.norm [1,4]] [Yf 33 0 1,YL 34 2 1 33,Yk 35 211 34,Ym 36 35,YG 36 (Yf 37 0 1),YG 36 (Yf 38 0 37),YG 36 (Yl 39 1 38),YG 36 (YB 40 .leq 39 60000),Yp 41 36 40,Ym 2 41] .ret
def z5ra:z1ka:=
 {n:=1,wr:=[],res:=[.t 2],body:=YR [1] [.norm [1]] [Yx 1 1 3 0,Yw 2 false] (Yq (YR [1,6,7,8] [.norm [1]] [Yf 5 2 1,Yl 6 1 5,Yn 7 6,Yc 8 0] (.block 0 (.loop z9ta))) z7Ia)}
def z1vb:z1ka:=
 {n:=0,wr:=[],res:=[.t 0],body:=Yr [] [Yv 0 30] (Yr [0] [Yo 1 (.build (List.replicate 10 (i64 0)++[st []]++[.sl .plain none 0 []]++bys (z5j 16)++[.sl .plain none 0 []]++[.sl .plain none 0 []]) [(0,1,.c (i64 1)),(3,1,.c (i64 1))]),Yo 2 (.build (List.replicate 10 (i64 0)++[st []]++[.sl .plain none 0 []]++bys (z5j 16)++[.sl .plain none 0 []]++[.sl .plain none 0 []]) [(0,1,.c (i64 1)),(3,1,.c (i64 2))]),Yo 3 (.build (List.replicate 10 (i64 0)++[st []]++[.sl .plain none 0 []]++bys (z5j 16)++[.sl .plain none 0 []]++[.sl .plain none 0 []]) [(0,1,.c (i64 4)),(3,1,.c (i64 1))]),Yo 4 (.buildSl 30 3 [i64 0,i64 0,i64 0,i64 0,i64 0,i64 0,i64 0,i64 0,i64 0,i64 0,st [],.sl .plain none 0 [],u8 0,u8 0,u8 0,u8 0,u8 0,u8 0,u8 0,u8 0,u8 0,u8 0,u8 0,u8 0,u8 0,u8 0,u8 0,u8 0,.sl .plain none 0 [],.sl .plain none 0 [],i64 0,i64 0,i64 0,i64 0,i64 0,i64 0,i64 0,i64 0,i64 0,i64 0,st [],.sl .plain none 0 [],u8 0,u8 0,u8 0,u8 0,u8 0,u8 0,u8 0,u8 0,u8 0,u8 0,u8 0,u8 0,u8 0,u8 0,u8 0,u8 0,.sl .plain none 0 [],.sl .plain none 0 [],i64 0,i64 0,i64 0,i64 0,i64 0,i64 0,i64 0,i64 0,i64 0,i64 0,st [],.sl .plain none 0 [],u8 0,u8 0,u8 0,u8 0,u8 0,u8 0,u8 0,u8 0,u8 0,u8 0,u8 0,u8 0,u8 0,u8 0,u8 0,u8 0,.sl .plain none 0 [],.sl .plain none 0 []] [(0,30,.s 1),(30,30,.s 2),(60,30,.s 3)]),YM 0 4] .ret)}
end Go.Abs
end

section
namespace Go.Abs
set_option maxRecDepth 100000
def okL (l:List z2n):Prop:=∀x∈l,x.ok
theorem z9Nb {x:z2n} (h:x.ok):(z7va none none none x).length=30:=z5Oa h.2.2.2.2.2.1
theorem z6Kc {l:List z2n} (h:okL l):(z6ra l).length=l.length*30:=by
 induction l with
 |nil=>rfl
 |cons a l ih=>
  have:=ih fun m hm=>h m (by simp[hm])
  rw[z6ra] at this⊢
  rw[List.flatMap_cons,List.length_append,this,z9Nb (h a (by simp)),List.length_cons];omega
theorem z7Sc {l:List z2n} (h:okL l) {i:Nat} (hi:i<l.length):((z6ra l).drop (i*30)).take 30=z7va none none none l[i]:=by
 have e1:=z9sb (enc:=z7va none none none) (P:=z2n.ok) (w:=30) (fun a ha=>z9Nb ha) l i h
 rw[show z6ra l=l.flatMap (z7va none none none) from rfl,e1,List.drop_eq_getElem_cons hi,List.flatMap_cons,List.take_left' (z9Nb (h _ (List.getElem_mem hi)))]
theorem z7Wc {l:List z2n} (h:okL l):z7vb l.length (z6ra l)=l:=z91c (enc:=z7va none none none) (P:=z2n.ok) (fun a ha=>z9Nb ha) (fun a ha=>z0ic ha.2.2.2.2.2.1 (z1Ca ha.2.2.2.2.2.2.1)) l h
def wE (x:z2n):Nat:=1+x.made.length+x.gone.length+x.cmd.list.length+x.cmd.data.length/100
def z4ma (l:List z2n):Nat:=(l.map wE).sum
def z3Nc (l:List z2n):Bool:=decide (z4ma l≤200)
theorem z2Qc {l:List z2n} {i:Nat} (h:i<l.length):z4ma (l.take (i+1))=z4ma (l.take i)+wE l[i]:=by
 rw[z4ma,z4ma,List.take_succ_eq_append_getElem h,List.map_append,List.sum_append];simp
theorem z0Ld (l:List z2n) (i:Nat):z4ma (l.take i)≤z4ma l:=by
 conv=>rhs;rw[←List.take_append_drop i l]
 rw[z4ma,z4ma,List.map_append,List.sum_append];omega
theorem z8ke {l:List z2n} {x:z2n} (h:x∈l):wE x≤z4ma l:=by
 induction l with
 |nil=>cases h
 |cons a l ih=>
  have e:z4ma (a::l)=wE a+z4ma l:=by simp[z4ma]
  rw[e]
  rcases List.mem_cons.1 h with rfl|h
  ·omega
  ·have:=ih h;omega
theorem z2Dc (l:List z2n):l.length≤z4ma l:=by
 induction l with
 |nil=>simp
 |cons a l ih=>
  have e:z4ma (a::l)=wE a+z4ma l:=by simp[z4ma]
  have:1≤wE a:=by unfold wE;omega
  rw[e,List.length_cons];omega
def z22b:z1f:=⟨fun ds=>∃(nl:Option Bool) (l:List z2n),okL l∧z4ma l≤1000000000∧ds=[z5sa nl l],fun ds=>bo (z3Nc (z7vb (gNn (nth ds 0)) (gCs (nth ds 0))))⟩
theorem z6Ac {nl:Option Bool} {l:List z2n} (h:okL l) (hs:z4ma l≤1000000000):z22b.pre [z5sa nl l]=True:=eq_true ⟨nl,l,h,hs,rfl⟩
theorem z9Wb {nl:Option Bool} {l:List z2n} (h:okL l):z22b.post [z5sa nl l]=bo (z3Nc l):=by
 show bo (z3Nc (z7vb l.length (z6ra l)))=_
 rw[z7Wc h]
theorem z66b {l:List z2n} (h:okL l) (hf:z3Nc l=true):z2vb l∧l.length≤200:=by
 have hs:z4ma l≤200:=by simpa[z3Nc] using hf
 refine⟨fun x hx=> ?_,Nat.le_trans (z2Dc l) hs⟩
 have h1:=z8ke hx
 unfold wE at h1
 exact⟨h x hx,⟨(h x hx).2.2.2.2.1,by omega,by omega⟩,by omega,by omega⟩
set_option maxHeartbeats 8000000 in
theorem z7sd (E:Env):∀ds,z22b.pre ds→ds.length=z3wa.n∧awp E z3wa.body (z6va z3wa.res (z22b.post ds)) (z4H z3wa.wr ds):=by
 rintro _ ⟨nl,l,h,hs,rfl⟩
 rw[z9Wb h]
 unfold z5sa
 have hlen:=z6Kc h
 have hl:=z2Dc l
 generalize hQf:z6va z3wa.res (bo (z3Nc l))=Qf
 simp(maxSteps:=1000000) (disch:=first|omega|simp;done|simp;omega) [z7G,z8pa,z7pa,z3wa]
 refine z1g fun Q1 hQ1=> ?_
 refine z2v (fun i:Nat=>⟨[(0,.sl .plain nl l.length (z6ra l))],[(3,i64 (z4ma (l.take i):Nat)),(6,.sl .plain nl l.length (z6ra l)),(7,i64 l.length),(8,i64 i)],[]⟩) (fun i=>l.length-i) (fun i=>i≤l.length) 0 (by simp[z4ma]) (by simp) fun i hi=> ?_
 refine z1g fun Q2 hQ2=> ?_
 by_cases c:i<l.length
 ·have hx:=h _ (List.getElem_mem c)
  have hat:=z7Sc h c
  have hsum:=z2Qc c
  have hle:=z0Ld l (i+1)
  have hxl:=z9Nb hx
  generalize hX:l[i]=x at*
  have hd:=hx.2.2.2.2.2.1
  have a7:hdA ((z7va none none none x).drop 11)= .sl .plain none x.cmd.list.length (z1Aa x.cmd.list):=rfl
  have a6:hdA ((z7va none none none x).drop 10)=st x.cmd.data:=rfl
  have a28:hdA ((z7va none none none x).drop 28)= .sl .plain none x.made.length (z0Ca x.made):=z6Ib hd
  have a29:hdA ((z7va none none none x).drop 29)= .sl .plain none x.gone.length (z1Aa x.gone):=z1Ib hd
  have hle2:30≤l.length*30-i*30:=by omega
  have hle3:i*30≤l.length*30:=by omega
  have hw:wE x=1+x.made.length+x.gone.length+x.cmd.list.length+x.cmd.data.length/100:=rfl
  have htk:List.take 30 (z7va none none none x)=z7va none none none x:=List.take_of_length_le (by omega)
  generalize hS:z4ma (l.take i)=S at*
  have sp:splice (i64 0::i64 0::i64 0::i64 0::i64 0::i64 0::i64 0::i64 0::i64 0::i64 0::st []:: .sl .plain none 0 []::(bys (z5j 16)++[.sl (.own 24) none 0 [],.sl (.own 1) none 0 []])) 0 (z7va none none none x)=z7va none none none x:=z2Ic rfl hxl
  simp(maxSteps:=1000000) (disch:=first|omega|simp;done|simp;omega) [z7G,z8pa,z7pa,z3Na,z27a,kT,kF,dT,dF,c,hlen,hat,hxl,htk,a6,a7,a28,a29,hle2,hle3,sp,hQ2]
  exact⟨i+1,by omega,by omega,by rw[hsum,hw];omega,by omega⟩
 ·obtain rfl:i=l.length:=by omega
  have hd:decide (((z4ma l:Nat):Int)≤200)=decide (z4ma l≤200):=decide_eq_decide.2 (by omega)
  simp(maxSteps:=1000000) (disch:=first|omega|simp;done|simp;omega) [z7G,z8pa,z7pa,z3Na,z57a,z3wa,kT,kF,dT,dF,hQ2,hQ1,List.take_length,←hQf,z3Nc,hd]
end Go.Abs
end

section
namespace Go.Abs
set_option maxRecDepth 100000
theorem z98d (E:Env):∀ds,z7qd.pre ds→ds.length=z6Aa.n∧awp E z6Aa.body (z6va z6Aa.res (z7qd.post ds)) (z4H z6Aa.wr ds):=by
 rintro _ ⟨n,lo,hi,rfl⟩
 rw[z79c]
 by_cases h1:lo≤n
 ·by_cases h2:n≤hi
  ·simp(maxSteps:=1000000) (disch:=first|omega|simp;done|simp;omega) [z7G,z8pa,z7pa,z6Aa,inR,h1,h2]
  ·simp(maxSteps:=1000000) (disch:=first|omega|simp;done|simp;omega) [z7G,z8pa,z7pa,z6Aa,inR,h1,h2]
 ·simp(maxSteps:=1000000) (disch:=first|omega|simp;done|simp;omega) [z7G,z8pa,z7pa,z6Aa,inR,h1]
/-! ### a number in a list -/
def z0bd (l:List Int) (x:Int):Nat:=l.findIdx fun y=>decide (y=x)
def z6od (l:List Int) (x:Int):Int:=if z0bd l x<l.length then(z0bd l x:Int) else-1
def z5fc:z1f:=⟨fun ds=>∃(nl:Option Bool) (l:List Int) (x:Int),l.length≤1000000000∧ds=[.sl .plain nl l.length (z1Aa l),i64 x],fun ds=>i64 (z6od (gIs (gCs (nth ds 0))) (asI (nth ds 1)))⟩
theorem z1Bc {nl:Option Bool} {n:Nat} {l:List Int} {x:Int} (h:l.length≤1000000000) (hn:n=l.length):z5fc.pre [.sl .plain nl n (z1Aa l),i64 x]=True:=eq_true ⟨nl,l,x,h,by rw[hn]⟩
theorem z5jc (nl:Option Bool) (n:Nat) (l:List Int) (x:Int):z5fc.post [.sl .plain nl n (z1Aa l),i64 x]=i64 (z6od l x):=by simp[z5fc,nth]
theorem z7Md {l:List Int} {x:Int} {i:Nat} (hi:i<l.length) (h0:∀j<i,atI l j≠x) (h:atI l i=x):z0bd l x=i:=by
 have ha:∀j (hj:j<l.length),atI l j=l[j]:=fun j hj=>by simp[atI,List.getD,List.getElem?_eq_getElem hj]
 apply Nat.le_antisymm
 ·apply Nat.le_of_not_lt
  intro hlt
  have:=List.not_of_lt_findIdx (p:=fun y=>decide (y=x)) (xs:=l) hlt
  rw[ha i hi] at h
  simp[h] at this
 ·apply Nat.le_of_not_lt
  intro hlt
  have hl:z0bd l x<l.length:=by omega
  have h1:decide (l[z0bd l x]=x)=true:=List.findIdx_getElem (p:=fun y=>decide (y=x)) (xs:=l) (w:=hl)
  exact h0 _ hlt (by rw[ha _ hl];exact of_decide_eq_true h1)
theorem z0Bd {l:List Int} {x:Int} (h0:∀j<l.length,atI l j≠x):z0bd l x=l.length:=by
 apply Nat.le_antisymm (List.findIdx_le_length)
 apply Nat.le_of_not_lt
 intro hl
 have h1:decide (l[z0bd l x]=x)=true:=List.findIdx_getElem (p:=fun y=>decide (y=x)) (xs:=l) (w:=hl)
 exact h0 _ hl (by simp only[atI,List.getD,List.getElem?_eq_getElem hl];exact of_decide_eq_true h1)
theorem z0ud (E:Env):∀ds,z5fc.pre ds→ds.length=z8Ea.n∧awp E z8Ea.body (z6va z8Ea.res (z5fc.post ds)) (z4H z8Ea.wr ds):=by
 rintro _ ⟨nl,l,x,hl,rfl⟩
 rw[z5jc]
 simp(maxSteps:=1000000) (disch:=first|omega|simp;done|simp;omega) [z7G,z8pa,z7pa,z8Ea]
 refine z1g fun Q0 hQ0=> ?_
 refine z2v (fun i:Nat=>⟨[(0,.sl .plain nl l.length (z1Aa l)),(1,i64 x)],[(7,i64 l.length),(8,i64 i)],[]⟩)
  (fun i=>l.length-i) (fun i=>i≤l.length∧∀j<i,atI l j≠x) 0 (by simp) (by simp) fun i hi=> ?_
 obtain⟨hi,he⟩:=hi
 refine z1g fun Q1 hQ1=> ?_
 by_cases h1:i<l.length
 ·by_cases h2:x=atI l i
  ·have hp:=z7Md h1 he h2.symm
   have hR:z6od l x=(i:Int):=by rw[z6od,hp,if_pos h1]
   simp(maxSteps:=1000000) (disch:=first|omega|simp;done|simp;omega) [z7G,z8pa,z7pa,z4Oa,z31a,kT,kF,dT,dF,z3lb,h1,h2,hQ1,hQ0]
   exact⟨by omega,by rw[←h2,hR]⟩
  ·simp(maxSteps:=1000000) (disch:=first|omega|simp;done|simp;omega) [z7G,z8pa,z7pa,z4Oa,z31a,kT,kF,dT,dF,z3lb,h1,h2,hQ1]
   refine⟨by omega,i+1,by omega,⟨by omega,fun j hj=> ?_⟩,by omega⟩
   ·rcases Nat.lt_or_eq_of_le (Nat.lt_succ_iff.1 hj) with h|h
    ·exact he j h
    ·rw[h];exact fun e=>h2 e.symm
 ·have hl':i=l.length:=by omega
  have hp:=z0Bd (l:=l) (x:=x) (fun j hj=>he j (by omega))
  have hR:z6od l x= -1:=by rw[z6od,hp,if_neg (by omega)]
  simp(maxSteps:=1000000) (disch:=first|omega|simp;done|simp;omega) [z7G,z8pa,z7pa,z4Oa,kT,kF,dT,dF,h1,hQ1,hQ0,z9pb,hR]
def z35b:z1f:=⟨z5fc.pre,fun ds=>bo (decide (asI (nth ds 1)∈gIs (gCs (nth ds 0))))⟩
theorem z4ed {nl:Option Bool} {n:Nat} {l:List Int} {x:Int} (h:l.length≤1000000000) (hn:n=l.length):z35b.pre [.sl .plain nl n (z1Aa l),i64 x]=True:=z1Bc h hn
theorem z2pc (nl:Option Bool) (n:Nat) (l:List Int) (x:Int):z35b.post [.sl .plain nl n (z1Aa l),i64 x]=bo (decide (x∈l)):=by simp[z35b,nth]
theorem z4hd (l:List Int) (x:Int):decide (0≤z6od l x)=decide (x∈l):=by
 have:z0bd l x<l.length↔x∈l:=by
  rw[z0bd,List.findIdx_lt_length]
  simp
 unfold z6od
 by_cases h:x∈l
 ·rw[if_pos (this.2 h)];simp[h]
 ·rw[if_neg (fun e=>h (this.1 e))];simp[h]
theorem z1Ed (E:Env) (h314:E.G 314=z5fc):∀ds,z35b.pre ds→ds.length=z8za.n∧awp E z8za.body (z6va z8za.res (z35b.post ds)) (z4H z8za.wr ds):=by
 rintro _ ⟨nl,l,x,hl,rfl⟩
 rw[z2pc,←z4hd]
 simp(maxSteps:=1000000) (disch:=first|omega|simp;done|simp;omega) [z7G,z8pa,z7pa,z8za,h314,z1Bc,z5jc]
theorem z62d (E:Env) (h312:E.G 312=z35b):∀ds,z7Jd.pre ds→ds.length=z4Fa.n∧awp E z4Fa.body (z6va z4Fa.res (z7Jd.post ds)) (z4H z4Fa.wr ds):=by
 rintro _ ⟨k,rfl⟩
 rw[z39c]
 have hp:z35b.pre [.sl .plain (some false) 8 [i64 2,i64 4,i64 5,i64 6,i64 8,i64 10,i64 15,i64 19],i64 k]=True:=z4ed (l:=[2,4,5,6,8,10,15,19]) (by simp) rfl
 have hq:z35b.post [.sl .plain (some false) 8 [i64 2,i64 4,i64 5,i64 6,i64 8,i64 10,i64 15,i64 19],i64 k]=bo (z0Kc k):=z2pc (some false) 8 [2,4,5,6,8,10,15,19] k
 simp(maxSteps:=1000000) (disch:=first|omega|simp;done|simp;omega) [z7G,z8pa,z7pa,z4Fa,h312,hp,hq]
/-! ### copies -/
theorem z0Ic {c:Cmd} (h:c.small):(z1Ec c).small:=by
 unfold z1Ec
 split
 ·exact⟨h.1,by simp,h.2.2⟩
 ·exact h
theorem z3Rd (E:Env):∀ds,z8Ed.pre ds→ds.length=z4Na.n∧awp E z4Na.body (z6va z4Na.res (z8Ed.post ds)) (z4H z4Na.wr ds):=by
 rintro _ ⟨t,m,rfl⟩
 rw[z9fd]
 simp(maxSteps:=1000000) (disch:=first|omega|simp;done|simp;omega) [z7G,z8pa,z7pa,z4Na,z7va,z1kc,z9u,z49a,z4wa,z2wa,z1Yd (a:=z5j 16) (b:=z5j 16) rfl,z8ie (d:=z5j 16) rfl,or_imp,forall_and,z0od,z4ie]
 rfl
end Go.Abs
end

section
namespace Go.Abs
set_option maxRecDepth 100000
set_option maxHeartbeats 8000000 in
theorem z6wd (E:Env):∀ds,z6wc.pre ds→ds.length=z9va.n∧awp E z9va.body (z6va z9va.res (z6wc.post ds)) (z4H z9va.wr ds):=by
 rintro _ ⟨c,nl,hc,rfl⟩
 rw[z4mc]
 obtain⟨k1,k2,k3,k4,k5,k6,dt,ls⟩:=c
 by_cases hs:z0Kc k1=true
 ·have hk:z1Ec ⟨k1,k2,k3,k4,k5,k6,dt,ls⟩=⟨k1,k2,k3,k4,k5,k6,[],ls⟩:=by simp[z1Ec,hs]
  rw[hk]
  simp only[z0Kc,List.mem_cons,List.not_mem_nil,or_false,decide_eq_true_eq] at hs
  rcases hs with rfl|rfl|rfl|rfl|rfl|rfl|rfl|rfl<;>simp(maxSteps:=1000000) (disch:=first|omega|simp;done|simp;omega) [z7G,z8pa,z7pa,z9va,z4Ia,z4Ja,z49a,kT,kF,z4wa,z2wa]
 ·have hk:z1Ec ⟨k1,k2,k3,k4,k5,k6,dt,ls⟩=⟨k1,k2,k3,k4,k5,k6,dt,ls⟩:=by simp[z1Ec,hs]
  rw[hk]
  simp only[z0Kc,List.mem_cons,List.not_mem_nil,or_false,decide_eq_true_eq,not_or] at hs
  obtain⟨n1,n2,n3,n4,n5,n6,n7,n8⟩:=hs
  simp(maxSteps:=1000000) (disch:=first|omega|simp;done|simp;omega) [z7G,z8pa,z7pa,z9va,z4Ia,z4Ja,z49a,kT,kF,n1,n2,n3,n4,n5,n6,n7,n8,z4wa,z2wa]
end Go.Abs
end

section
namespace Go.Abs
theorem z5Tc (v:BitVec 64):IntKind.i64.wrap (v.toNat:Int)=v.toInt:=by
 have h:=v.isLt
 rw[BitVec.toInt_eq_toNat_cond]
 show(let m:=(v.toNat:Int)% 2^64;if true&&decide (2^(64-1)≤m) then m-2^64 else m)=_
 simp only[Bool.true_and,decide_eq_true_eq,show(2:Int)^(64-1)=9223372036854775808 from rfl,show(2:Int)^64=18446744073709551616 from rfl,show(2:Nat)^64=18446744073709551616 from rfl]
 have h:v.toNat<18446744073709551616:=h
 split<;>split<;>omega
theorem z2hc {n:Int} (h:z2e n):(BitVec.ofInt 64 n).toInt=n:=by
 obtain⟨h1,h2⟩:=h
 rw[BitVec.toInt_ofInt]
 rw[Int.bmod_def]
 split<;>omega
theorem z9Qd (x c:BitVec 64):x&&& ~~~c=0#64↔x&&&c=x:=by
 constructor
 ·intro h
  apply BitVec.eq_of_getLsbD_eq
  intro i hi
  have:=congrArg (fun v=>v.getLsbD i) h
  simp[hi] at this⊢
  exact this
 ·intro h
  apply BitVec.eq_of_getLsbD_eq
  intro i hi
  have:=congrArg (fun v=>v.getLsbD i) h
  simp[hi] at this⊢
  exact this
theorem z23c {n:Int} (h:z2e n):z2Zb n=(z2md n 956==n):=by
 have e1:z8J n 956=(BitVec.ofInt 64 n&&& ~~~BitVec.ofInt 64 956).toInt:=z5Tc _
 have e2:z2md n 956=(BitVec.ofInt 64 n&&&BitVec.ofInt 64 956).toInt:=z5Tc _
 rw[Bool.eq_iff_iff,z2Zb,beq_iff_eq,beq_iff_eq,e1,e2]
 have z:(0:Int)=(0#64:BitVec 64).toInt:=by decide
 rw[z,BitVec.toInt_inj,z9Qd]
 constructor
 ·intro e;rw[e,z2hc h]
 ·intro e
  have:=(BitVec.toInt_inj (x:=BitVec.ofInt 64 n&&&BitVec.ofInt 64 956) (y:=BitVec.ofInt 64 n)).1 (by rw[e,z2hc h])
  exact this
end Go.Abs
end

section
namespace Go.Abs
set_option maxRecDepth 100000
theorem z1dd {m:z3P} (h:z2e m.uses):z8zb m=true↔1≤m.id∧m.id≤2147483647∧1≤m.ver∧m.ver≤2147483647∧0≤m.par∧m.par≤2147483647∧0≤m.ty∧m.ty≤31∧z2md m.uses 956=m.uses∧0≤m.beg∧m.beg≤m.fin∧0≤m.fin∧m.fin≤1099511627776:=by
 simp only[z8zb,z5kb,z23c h,Bool.and_eq_true,beq_iff_eq]
 simp only[z2jc,z0yc,and_assoc]
theorem z29d {p:z3P→Bool} {l:List z3P} {i:Nat} (h:i<l.length) (hp:p (atD l i)=false):l.all p=false:=by
 cases ha:l.all p with
 |false=>rfl
 |true=>
  have:=List.all_eq_true.1 ha _ (z6fc h)
  rw[hp] at this
  cases this
theorem z4Jd {p:z3P→Bool} {l:List z3P} (h:∀j<l.length,p (atD l j)=true):l.all p=true:=by
 rw[List.all_eq_true]
 intro x hx
 obtain⟨i,hi,rfl⟩:=List.mem_iff_getElem.1 hx
 rw[←z30b hi]
 exact h i hi
theorem z4gd (c:Cmd):z7Hb c (z1Ec c)=(!z0Kc c.kind||decide (c.data=[])):=by
 unfold z1Ec
 cases hs:z0Kc c.kind
 ·simp[z7Hb]
 ·obtain⟨k1,k2,k3,k4,k5,k6,dt,ls⟩:=c
  simp[z7Hb]
  cases dt<;>rfl
set_option maxHeartbeats 16000000 in
theorem z1sd (E:Env) (h149:E.G 149=z4jb) (h327:E.G 327=z6wc):∀ds,z6cc.pre ds→ds.length=z1za.n∧awp E z1za.body (z6va z1za.res (z6cc.post ds)) (z4H z1za.wr ds):=by
 rintro _ ⟨nc,nm,ng,x,hx,rfl⟩
 rw[z0Hb hx]
 have h16:=hx.1.2.2.2.2.2.2.1
 have hd:=hx.1.2.2.2.2.2.1
 have hml:=hx.2.2.1
 have hgl:=hx.2.2.2
 have hl:=z5Oa (nc:=nc) (nm:=nm) (ng:=ng) hd
 have e28:=z6Ib (nc:=nc) (nm:=nm) (ng:=ng) hd
 have e29:=z1Ib (nc:=nc) (nm:=nm) (ng:=ng) hd
 have hg:=z3Eb (nc:=nc) (nm:=nm) (ng:=ng) hd
 have hlen:=z4Va (z1Ca h16)
 obtain⟨Z,hZ⟩:∃Z,Z=okE x:=⟨_,rfl⟩
 rw[←hZ]
 have hzl:¬(0≤x.time∧x.time≤1099511627776∧0≤x.req∧x.req≤2147483647∧1≤x.mode∧x.mode≤5∧x.made.length≤4096∧x.gone.length≤4096)→Z=false:=fun h=>by
  cases hc:okE x
  ·rw[hZ,hc]
  ·exact absurd (z1Mb hc) h
 refine⟨rfl,?_⟩
 simp only[z1za]
 refine z1g fun Q9 hQ9=> ?_
 refine z0Ma fun B hB=> ?_
 simp(maxSteps:=1000000) (disch:=first|omega|simp;done|simp;omega) [z7G,z8pa,z7pa,hl]
 rw[hB];clear hB
 rw[z4ia]
 refine z1g fun Q1 hQ1=> ?_
 rw[z4ia]
 refine z1g fun Q2 hQ2=> ?_
 rw[z1W]
 refine z9qa fun T hT=> ?_
 simp(maxSteps:=1000000) (disch:=first|omega|simp;done|simp;omega) [z7G,z8pa,z7pa,z7Ua,hl,e28,e29]
 by_cases b1:x.time<0
 ·refine z2qa true 10 46 (by simp[b1]) (by rw[hT];kernel_rfl) (by rw[hT];kernel_rfl) ?_
  have hz:Z=false:=hzl (by omega)
  simp(maxSteps:=1000000) (disch:=first|omega|simp;done|simp;omega) [z7G,z8pa,z7pa,hQ2,hQ1,hQ9,kT,hz]
 rw[hT];clear hT
 refine z9qa fun T hT=> ?_
 simp(maxSteps:=1000000) (disch:=first|omega|simp;done|simp;omega) [z7G,z8pa,z7pa,z6Va,hl,e28,e29,b1]
 by_cases b2:1099511627776<x.time
 ·refine z2qa true 15 46 (by simp[b2]) (by rw[hT];kernel_rfl) (by rw[hT];kernel_rfl) ?_
  have hz:Z=false:=hzl (by omega)
  simp(maxSteps:=1000000) (disch:=first|omega|simp;done|simp;omega) [z7G,z8pa,z7pa,hQ2,hQ1,hQ9,kT,hz]
 rw[hT];clear hT
 refine z9qa fun T hT=> ?_
 simp(maxSteps:=1000000) (disch:=first|omega|simp;done|simp;omega) [z7G,z8pa,z7pa,z8Ua,hl,e28,e29,b1,b2]
 by_cases b3:x.req<0
 ·refine z2qa true 20 46 (by simp[b3]) (by rw[hT];kernel_rfl) (by rw[hT];kernel_rfl) ?_
  have hz:Z=false:=hzl (by omega)
  simp(maxSteps:=1000000) (disch:=first|omega|simp;done|simp;omega) [z7G,z8pa,z7pa,hQ2,hQ1,hQ9,kT,hz]
 rw[hT];clear hT
 refine z9qa fun T hT=> ?_
 simp(maxSteps:=1000000) (disch:=first|omega|simp;done|simp;omega) [z7G,z8pa,z7pa,z4Wa,hl,e28,e29,b1,b2,b3]
 by_cases b4:2147483647<x.req
 ·refine z2qa true 25 46 (by simp[b4]) (by rw[hT];kernel_rfl) (by rw[hT];kernel_rfl) ?_
  have hz:Z=false:=hzl (by omega)
  simp(maxSteps:=1000000) (disch:=first|omega|simp;done|simp;omega) [z7G,z8pa,z7pa,hQ2,hQ1,hQ9,kT,hz]
 rw[hT];clear hT
 refine z9qa fun T hT=> ?_
 simp(maxSteps:=1000000) (disch:=first|omega|simp;done|simp;omega) [z7G,z8pa,z7pa,z1Va,hl,e28,e29,b1,b2,b3,b4]
 by_cases b5:x.mode<1
 ·refine z2qa true 30 46 (by simp[b5]) (by rw[hT];kernel_rfl) (by rw[hT];kernel_rfl) ?_
  have hz:Z=false:=hzl (by omega)
  simp(maxSteps:=1000000) (disch:=first|omega|simp;done|simp;omega) [z7G,z8pa,z7pa,hQ2,hQ1,hQ9,kT,hz]
 rw[hT];clear hT
 refine z9qa fun T hT=> ?_
 simp(maxSteps:=1000000) (disch:=first|omega|simp;done|simp;omega) [z7G,z8pa,z7pa,z0Ya,hl,e28,e29,b1,b2,b3,b4,b5]
 by_cases b6:5<x.mode
 ·refine z2qa true 35 46 (by simp[b6]) (by rw[hT];kernel_rfl) (by rw[hT];kernel_rfl) ?_
  have hz:Z=false:=hzl (by omega)
  simp(maxSteps:=1000000) (disch:=first|omega|simp;done|simp;omega) [z7G,z8pa,z7pa,hQ2,hQ1,hQ9,kT,hz]
 rw[hT];clear hT
 refine z9qa fun T hT=> ?_
 simp(maxSteps:=1000000) (disch:=first|omega|simp;done|simp;omega) [z7G,z8pa,z7pa,z5Wa,hl,e28,e29,b1,b2,b3,b4,b5,b6]
 by_cases b7:4096<(x.made.length:Int)
 ·refine z2qa true 41 46 (by simp[b7]) (by rw[hT];kernel_rfl) (by rw[hT];kernel_rfl) ?_
  have hz:Z=false:=hzl (by omega)
  simp(maxSteps:=1000000) (disch:=first|omega|simp;done|simp;omega) [z7G,z8pa,z7pa,hQ2,hQ1,hQ9,kT,hz]
 rw[hT];clear hT
 by_cases b8:4096<(x.gone.length:Int)
 ·have hz:Z=false:=hzl (by omega)
  simp(maxSteps:=1000000) (disch:=first|omega|simp;done|simp;omega) [z7G,z8pa,z7pa,hQ2,hQ1,hQ9,kT,hz,z9Ia,hl,e28,e29,b1,b2,b3,b4,b5,b6,b7,b8]
 simp(maxSteps:=1000000) (disch:=first|omega|simp;done|simp;omega) [z7G,z8pa,z7pa,z9Ia,hl,e28,e29,b1,b2,b3,b4,b5,b6,b7,b8,hQ2,hQ1,kF]
 simp(maxSteps:=1000000) (disch:=first|omega|simp;done|simp;omega) [z7G,z8pa,z7pa,z3Va]
 refine z1g fun Q3 hQ3=> ?_
 refine z2v (fun i:Nat=>⟨[(0,.agg (z7va nc nm ng x))],[(1,.bp 1 0),(3,i64 i)],[(1,some (z7va nc nm ng x))]⟩)
  (fun i=>x.made.length-i) (fun i=>i≤x.made.length∧∀j<i,z8zb (atD x.made j)=true) 0 (by simp) (by simp) fun i hi=> ?_
 obtain⟨hi,he⟩:=hi
 refine z1g fun Q4 hQ4=> ?_
 by_cases h1:i<x.made.length
 ·have hm:=h16 _ (z6fc h1)
  have hmd:=hm.2.2.2.2.2.2.2
  have ha:=z7Oc h16 h1
  have hmll:=z3Ja hmd
  have hle:24≤x.made.length*24-i*24:=by omega
  have hle2:i*24≤x.made.length*24:=by omega
  have hno:z8zb (atD x.made i)=false→Z=false:=fun h=>by
   have:=z29d (p:=z8zb) h1 h
   rw[hZ]
   simp only[okE,this]
   simp
  have hst:∀j<i+1,j<i∨j=i:=fun j hj=>by omega
  obtain⟨m,hX⟩:∃m,m=atD x.made i:=⟨_,rfl⟩
  rw[←hX] at hm hmd ha hmll hno
  have sp:splice (i64 0::i64 0::i64 0::i64 0::i64 0::i64 0::i64 0::bo false::bys (z5j 16)) 0 (z5Ma m)=z5Ma m:=z5Uc hmd rfl
  have hiff:=z1dd hm.2.2.1
  have hno2:¬(1≤m.id∧m.id≤2147483647∧1≤m.ver∧m.ver≤2147483647∧0≤m.par∧m.par≤2147483647∧0≤m.ty∧m.ty≤31∧z2md m.uses 956=m.uses∧0≤m.beg∧m.beg≤m.fin∧0≤m.fin∧m.fin≤1099511627776)→Z=false:=fun h=>hno (by
   cases hc:z8zb m
   ·rfl
   ·exact absurd (hiff.1 hc) h)
  simp(maxSteps:=1000000) (disch:=first|omega|simp;done|simp;omega) [z7G,z8pa,z7pa,z9Ha,kT,kF,dT,dF,h1,e28,hl]
  simp only[z9Ua]
  rw[z4ia]
  refine z1g fun Q5 hQ5=> ?_
  rw[z7Kd]
  refine z1g fun Q6 hQ6=> ?_
  refine z0Ma fun B hB=> ?_
  simp(maxSteps:=1000000) (disch:=first|omega|simp;done|simp;omega) [z7G,z8pa,z7pa,e28,hl,hlen,hle,hle2,ha,sp,hmll,z3zb,z3Mb,h1]
  rw[hB];clear hB
  rw[z4ia]
  refine z1g fun Q7 hQ7=> ?_
  rw[z1W]
  refine z9qa fun T hT=> ?_
  simp(maxSteps:=1000000) (disch:=first|omega|simp;done|simp;omega) [z7G,z8pa,z7pa,z3Xa,hmll]
  by_cases c1:m.id<1
  ·refine z2qa true 62 121 (by simp[c1]) (by rw[hT];kernel_rfl) (by rw[hT];kernel_rfl) ?_
   have hz:Z=false:=hno2 (by omega)
   simp(maxSteps:=1000000) (disch:=first|omega|simp;done|simp;omega) [z7G,z8pa,z7pa,hQ7,hQ6,hQ5,hQ4,hQ3,hQ9,kT,hz]
  rw[hT];clear hT
  refine z9qa fun T hT=> ?_
  simp(maxSteps:=1000000) (disch:=first|omega|simp;done|simp;omega) [z7G,z8pa,z7pa,z8Va,hmll,c1]
  by_cases c2:2147483647<m.id
  ·refine z2qa true 67 121 (by simp[c2]) (by rw[hT];kernel_rfl) (by rw[hT];kernel_rfl) ?_
   have hz:Z=false:=hno2 (by omega)
   simp(maxSteps:=1000000) (disch:=first|omega|simp;done|simp;omega) [z7G,z8pa,z7pa,hQ7,hQ6,hQ5,hQ4,hQ3,hQ9,kT,hz]
  rw[hT];clear hT
  refine z9qa fun T hT=> ?_
  simp(maxSteps:=1000000) (disch:=first|omega|simp;done|simp;omega) [z7G,z8pa,z7pa,z4Sa,hmll,c1,c2]
  by_cases c3:m.ver<1
  ·refine z2qa true 72 121 (by simp[c3]) (by rw[hT];kernel_rfl) (by rw[hT];kernel_rfl) ?_
   have hz:Z=false:=hno2 (by omega)
   simp(maxSteps:=1000000) (disch:=first|omega|simp;done|simp;omega) [z7G,z8pa,z7pa,hQ7,hQ6,hQ5,hQ4,hQ3,hQ9,kT,hz]
  rw[hT];clear hT
  refine z9qa fun T hT=> ?_
  simp(maxSteps:=1000000) (disch:=first|omega|simp;done|simp;omega) [z7G,z8pa,z7pa,z2Sa,hmll,c1,c2,c3]
  by_cases c4:2147483647<m.ver
  ·refine z2qa true 77 121 (by simp[c4]) (by rw[hT];kernel_rfl) (by rw[hT];kernel_rfl) ?_
   have hz:Z=false:=hno2 (by omega)
   simp(maxSteps:=1000000) (disch:=first|omega|simp;done|simp;omega) [z7G,z8pa,z7pa,hQ7,hQ6,hQ5,hQ4,hQ3,hQ9,kT,hz]
  rw[hT];clear hT
  refine z9qa fun T hT=> ?_
  simp(maxSteps:=1000000) (disch:=first|omega|simp;done|simp;omega) [z7G,z8pa,z7pa,z5Sa,hmll,c1,c2,c3,c4]
  by_cases c5:m.par<0
  ·refine z2qa true 82 121 (by simp[c5]) (by rw[hT];kernel_rfl) (by rw[hT];kernel_rfl) ?_
   have hz:Z=false:=hno2 (by omega)
   simp(maxSteps:=1000000) (disch:=first|omega|simp;done|simp;omega) [z7G,z8pa,z7pa,hQ7,hQ6,hQ5,hQ4,hQ3,hQ9,kT,hz]
  rw[hT];clear hT
  refine z9qa fun T hT=> ?_
  simp(maxSteps:=1000000) (disch:=first|omega|simp;done|simp;omega) [z7G,z8pa,z7pa,z2Ta,hmll,c1,c2,c3,c4,c5]
  by_cases c6:2147483647<m.par
  ·refine z2qa true 87 121 (by simp[c6]) (by rw[hT];kernel_rfl) (by rw[hT];kernel_rfl) ?_
   have hz:Z=false:=hno2 (by omega)
   simp(maxSteps:=1000000) (disch:=first|omega|simp;done|simp;omega) [z7G,z8pa,z7pa,hQ7,hQ6,hQ5,hQ4,hQ3,hQ9,kT,hz]
  rw[hT];clear hT
  refine z9qa fun T hT=> ?_
  simp(maxSteps:=1000000) (disch:=first|omega|simp;done|simp;omega) [z7G,z8pa,z7pa,z0Ta,hmll,c1,c2,c3,c4,c5,c6]
  by_cases c7:m.ty<0
  ·refine z2qa true 92 121 (by simp[c7]) (by rw[hT];kernel_rfl) (by rw[hT];kernel_rfl) ?_
   have hz:Z=false:=hno2 (by omega)
   simp(maxSteps:=1000000) (disch:=first|omega|simp;done|simp;omega) [z7G,z8pa,z7pa,hQ7,hQ6,hQ5,hQ4,hQ3,hQ9,kT,hz]
  rw[hT];clear hT
  refine z9qa fun T hT=> ?_
  simp(maxSteps:=1000000) (disch:=first|omega|simp;done|simp;omega) [z7G,z8pa,z7pa,z7Sa,hmll,c1,c2,c3,c4,c5,c6,c7]
  by_cases c8:31<m.ty
  ·refine z2qa true 97 121 (by simp[c8]) (by rw[hT];kernel_rfl) (by rw[hT];kernel_rfl) ?_
   have hz:Z=false:=hno2 (by omega)
   simp(maxSteps:=1000000) (disch:=first|omega|simp;done|simp;omega) [z7G,z8pa,z7pa,hQ7,hQ6,hQ5,hQ4,hQ3,hQ9,kT,hz]
  rw[hT];clear hT
  refine z9qa fun T hT=> ?_
  simp(maxSteps:=1000000) (disch:=first|omega|simp;done|simp;omega) [z7G,z8pa,z7pa,z9Ra,hmll,c1,c2,c3,c4,c5,c6,c7,c8]
  by_cases c9:z2md m.uses 956=m.uses
  rotate_left
  ·refine z2qa true 105 121 (by simp[c9]) (by rw[hT];kernel_rfl) (by rw[hT];kernel_rfl) ?_
   have hz:Z=false:=hno2 (by omega)
   simp(maxSteps:=1000000) (disch:=first|omega|simp;done|simp;omega) [z7G,z8pa,z7pa,hQ7,hQ6,hQ5,hQ4,hQ3,hQ9,kT,hz]
  rw[hT];clear hT
  refine z9qa fun T hT=> ?_
  simp(maxSteps:=1000000) (disch:=first|omega|simp;done|simp;omega) [z7G,z8pa,z7pa,z7Ra,hmll,c1,c2,c3,c4,c5,c6,c7,c8,c9]
  by_cases c10:m.beg<0
  ·refine z2qa true 110 121 (by simp[c10]) (by rw[hT];kernel_rfl) (by rw[hT];kernel_rfl) ?_
   have hz:Z=false:=hno2 (by omega)
   simp(maxSteps:=1000000) (disch:=first|omega|simp;done|simp;omega) [z7G,z8pa,z7pa,hQ7,hQ6,hQ5,hQ4,hQ3,hQ9,kT,hz]
  rw[hT];clear hT
  refine z9qa fun T hT=> ?_
  simp(maxSteps:=1000000) (disch:=first|omega|simp;done|simp;omega) [z7G,z8pa,z7pa,z0Sa,hmll,c1,c2,c3,c4,c5,c6,c7,c8,c9,c10]
  by_cases c11:m.fin<m.beg
  ·refine z2qa true 117 121 (by simp[c11]) (by rw[hT];kernel_rfl) (by rw[hT];kernel_rfl) ?_
   have hz:Z=false:=hno2 (by omega)
   simp(maxSteps:=1000000) (disch:=first|omega|simp;done|simp;omega) [z7G,z8pa,z7pa,hQ7,hQ6,hQ5,hQ4,hQ3,hQ9,kT,hz]
  rw[hT];clear hT
  by_cases c12:1099511627776<m.fin
  ·have hz:Z=false:=hno2 (by omega)
   simp(maxSteps:=1000000) (disch:=first|omega|simp;done|simp;omega) [z7G,z8pa,z7pa,hQ7,hQ6,hQ5,hQ4,hQ3,hQ9,kT,hz,z2Ha,hmll,c1,c2,c3,c4,c5,c6,c7,c8,c9,c10,c11,c12]
  simp(maxSteps:=1000000) (disch:=first|omega|simp;done|simp;omega) [z7G,z8pa,z7pa,z2Ha,hmll,c1,c2,c3,c4,c5,c6,c7,c8,c9,c10,c11,c12,hQ7,hQ6,hQ5,hQ4,kF]
  have hyes:z8zb m=true:=hiff.2 (by omega)
  refine⟨i+1,by omega,⟨by omega,fun j hj=> ?_⟩,by omega⟩
  rcases hst j hj with h|h
  ·exact he j h
  ·rw[h,←hX];exact hyes
 ·obtain rfl:i=x.made.length:=by omega
  have hall:=z4Jd he
  have hzz:Z=if x.kind=0 then z5Qa x (z1kc x.time x.mode) else inR x.kind 1 27&&(x.cmd.kind==x.kind)&&(!z0Kc x.kind||decide (x.cmd.data=[])):=by
   have q1:inR x.time 0 z0yc=true:=(z5kb _ _ _).2 (by simp only[z0yc];omega)
   have q2:inR x.req 0 z2jc=true:=(z5kb _ _ _).2 (by simp only[z2jc];omega)
   have q3:inR x.mode 1 5=true:=(z5kb _ _ _).2 (by omega)
   have q4:decide (x.made.length≤4096)=true:=by simp only[decide_eq_true_eq];omega
   have q5:decide (x.gone.length≤4096)=true:=by simp only[decide_eq_true_eq];omega
   simp only[hZ,okE,q1,q2,q3,q4,q5,hall,Bool.true_and]
  simp(maxSteps:=1000000) (disch:=first|omega|simp;done|simp;omega) [z7G,z8pa,z7pa,z9Ha,kF,kT,dT,dF,hQ4,hQ3,e28,hl]
  have hzp:=z8Ib (nl:=nc) (nl':=none) hx.2.1 z1sb
  have hzq:=z8bb x.cmd z9u nc none
  rw[show z49a z9u none=[i64 0,i64 0,i64 0,i64 0,i64 0,i64 0,st [],.sl .plain none 0 []] from rfl] at hzp hzq
  by_cases hk:x.kind=0
  ·rw[if_pos hk] at hzz
   have eqz:z8s (ks8 16) (bys x.dig) (bys (z5j 16))=decide (x.dig=z8Rd):=z23a hd rfl
   simp only[z6Ia]
   rw[z4ia]
   refine z1g fun Q1 hQ1=> ?_
   refine z0Ma fun B hB=> ?_
   simp(maxSteps:=1000000) (disch:=first|omega|simp;done|simp;omega) [z7G,z8pa,z7pa,hl,hk]
   rw[hB];clear hB
   rw[z4h]
   refine⟨by simp,fun _=> ?_,fun h=>by simp at h⟩
   refine z0Ma fun B hB=> ?_
   simp(maxSteps:=1000000) (disch:=first|omega|simp;done|simp;omega) [z7G,z8pa,z7pa,hl,h149,hzp,hzq]
   rw[hB];clear hB
   rw[z4ia]
   refine z1g fun Q2 hQ2=> ?_
   rw[z1W]
   refine z9qa fun T hT=> ?_
   simp(maxSteps:=1000000) (disch:=first|omega|simp;done|simp;omega) [z7G,z8pa,z7pa,z5Ra,hl,e28,e29,hg,eqz,hd]
   by_cases d1:x.req=0
   rotate_left
   ·refine z2qa false 132 2 (by simp[d1]) (by rw[hT];kernel_rfl) (by rw[hT];kernel_rfl) ?_
    have hz:Z=false:=by rw[hzz];simp[z5Qa,z1kc,d1]
    simp(maxSteps:=1000000) (disch:=first|omega|simp;done|simp;omega) [z7G,z8pa,z7pa,hQ2,hQ1,hQ9,hz]
   rw[hT];clear hT
   refine z9qa fun T hT=> ?_
   simp(maxSteps:=1000000) (disch:=first|omega|simp;done|simp;omega) [z7G,z8pa,z7pa,z6Ra,hl,e28,e29,hg,eqz,hd,d1]
   by_cases d2:z7Hb x.cmd z9u=true
   rotate_left
   ·refine z2qa false 135 2 (by simp[d2]) (by rw[hT];kernel_rfl) (by rw[hT];kernel_rfl) ?_
    have hz:Z=false:=by rw[hzz];simp[z5Qa,z1kc,d2]
    simp(maxSteps:=1000000) (disch:=first|omega|simp;done|simp;omega) [z7G,z8pa,z7pa,hQ2,hQ1,hQ9,hz]
   rw[hT];clear hT
   refine z9qa fun T hT=> ?_
   simp(maxSteps:=1000000) (disch:=first|omega|simp;done|simp;omega) [z7G,z8pa,z7pa,z5Ta,hl,e28,e29,hg,eqz,hd,d1,d2]
   by_cases d3:x.dig=z8Rd
   rotate_left
   ·refine z2qa false 141 2 (by simp[d3]) (by rw[hT];kernel_rfl) (by rw[hT];kernel_rfl) ?_
    have hz:Z=false:=by rw[hzz];simp[z5Qa,z1kc,d3]
    simp(maxSteps:=1000000) (disch:=first|omega|simp;done|simp;omega) [z7G,z8pa,z7pa,hQ2,hQ1,hQ9,hz]
   rw[hT];clear hT
   refine z9qa fun T hT=> ?_
   simp(maxSteps:=1000000) (disch:=first|omega|simp;done|simp;omega) [z7G,z8pa,z7pa,z8Ta,hl,e28,e29,hg,eqz,hd,d1,d2,d3]
   by_cases d4:x.made=[]
   rotate_left
   ·refine z2qa false 147 2 (by simp[d4]) (by rw[hT];kernel_rfl) (by rw[hT];kernel_rfl) ?_
    have hz:Z=false:=by rw[hzz];simp[z5Qa,z1kc,d4]
    simp(maxSteps:=1000000) (disch:=first|omega|simp;done|simp;omega) [z7G,z8pa,z7pa,hQ2,hQ1,hQ9,hz]
   rw[hT];clear hT
   by_cases d5:x.gone=[]
   rotate_left
   ·have hz:Z=false:=by rw[hzz];simp[z5Qa,z1kc,d5]
    simp(maxSteps:=1000000) (disch:=first|omega|simp;done|simp;omega) [z7G,z8pa,z7pa,hQ2,hQ1,hQ9,hz,z6Ga,hl,e28,e29,hg,eqz,hd,d1,d2,d3,d4,d5]
   have hz:Z=true:=by rw[hzz];simp[z5Qa,z1kc,d1,d2,d3,d4,d5,hk]
   simp(maxSteps:=1000000) (disch:=first|omega|simp;done|simp;omega) [z7G,z8pa,z7pa,z6Ga,hl,e28,e29,hg,eqz,hd,d1,d2,d3,d4,d5,hQ2,hQ1,hQ9,hz]
  ·rw[if_neg hk] at hzz
   have hp2:=z88c (nl:=nc) hx.2.1
   have hq2:=z4mc x.cmd nc
   have hp3:=z8Ib (nl:=nc) (nl':=nc) hx.2.1 (z0Ic hx.2.1)
   have hq3:=z8bb x.cmd (z1Ec x.cmd) nc nc
   simp only[z6Ia]
   rw[z4ia]
   refine z1g fun Q1 hQ1=> ?_
   refine z0Ma fun B hB=> ?_
   simp(maxSteps:=1000000) (disch:=first|omega|simp;done|simp;omega) [z7G,z8pa,z7pa,hl,hk]
   rw[hB];clear hB
   rw[z4h]
   refine⟨by simp[hk],fun h=>by simp[hk] at h,fun _=> ?_⟩
   simp(maxSteps:=1000000) (disch:=first|omega|simp;done|simp;omega) [z7G,z8pa,z7pa,hQ1]
   simp only[z0Va]
   refine z0Ma fun B hB=> ?_
   simp(maxSteps:=1000000) (disch:=first|omega|simp;done|simp;omega) [z7G,z8pa,z7pa,hl,h149,h327,hp2,hq2,hp3,hq3]
   rw[hB];clear hB
   rw[z4ia]
   refine z1g fun Q2 hQ2=> ?_
   rw[z1W]
   refine z9qa fun T hT=> ?_
   simp(maxSteps:=1000000) (disch:=first|omega|simp;done|simp;omega) [z7G,z8pa,z7pa,z4Ra,hl]
   by_cases d1:1≤x.kind
   rotate_left
   ·refine z2qa false 162 2 (by simp[d1]) (by rw[hT];kernel_rfl) (by rw[hT];kernel_rfl) ?_
    have hz:Z=false:=by rw[hzz];simp[inR,d1]
    simp(maxSteps:=1000000) (disch:=first|omega|simp;done|simp;omega) [z7G,z8pa,z7pa,hQ2,hQ9,hz]
   rw[hT];clear hT
   refine z9qa fun T hT=> ?_
   simp(maxSteps:=1000000) (disch:=first|omega|simp;done|simp;omega) [z7G,z8pa,z7pa,z3Ra,hl,d1]
   by_cases d2:x.kind≤27
   rotate_left
   ·refine z2qa false 167 2 (by simp[d2]) (by rw[hT];kernel_rfl) (by rw[hT];kernel_rfl) ?_
    have hz:Z=false:=by rw[hzz];simp[inR,d2]
    simp(maxSteps:=1000000) (disch:=first|omega|simp;done|simp;omega) [z7G,z8pa,z7pa,hQ2,hQ9,hz]
   rw[hT];clear hT
   refine z9qa fun T hT=> ?_
   simp(maxSteps:=1000000) (disch:=first|omega|simp;done|simp;omega) [z7G,z8pa,z7pa,z9Sa,hl,d1,d2]
   by_cases d3:x.cmd.kind=x.kind
   rotate_left
   ·refine z2qa false 175 2 (by simp[d3]) (by rw[hT];kernel_rfl) (by rw[hT];kernel_rfl) ?_
    have hz:Z=false:=by rw[hzz];simp[inR,d3]
    simp(maxSteps:=1000000) (disch:=first|omega|simp;done|simp;omega) [z7G,z8pa,z7pa,hQ2,hQ9,hz]
   rw[hT];clear hT
   have hz:Z=z7Hb x.cmd (z1Ec x.cmd):=by rw[hzz,z4gd,d3];simp[inR,d1,d2]
   simp(maxSteps:=1000000) (disch:=first|omega|simp;done|simp;omega) [z7G,z8pa,z7pa,z3Sa,hl,d1,d2,d3,hQ2,hQ9,hz]
end Go.Abs
end

section
namespace Go.Abs
set_option maxRecDepth 100000
def e0R:z2n:=⟨0,0,0,0,z9u,[],[],[]⟩
def atE (l:List z2n) (i:Nat):z2n:=l.getD i e0R
theorem z5vc {l:List z2n} {i:Nat} (h:i<l.length):atE l i=l[i]:=by
 simp[atE,List.getD,List.getElem?_eq_getElem h]
theorem z7xd {l:List z2n} {i:Nat} (h:i<l.length):atE l i∈l:=by rw[z5vc h];exact List.getElem_mem h
def z2Zd (l:List z2n) (i:Nat):Bool:=okE (atE l i)&&(decide (i=0)||decide ((atE l (i-1)).time≤(atE l i).time))
def z57d (l:List z2n):Bool:=(List.range l.length).all (z2Zd l)
def z7vc (s:Int) (k:Nat) (l:List z2n):Bool:=z57d l&&okP s k&&decide (s≤60000)
def z65c (s:Int) (nr ne:Option Bool) (r:List (List UInt8)) (l:List z2n):z0a:= .agg [i64 s,z5Aa nr r,z5sa ne l]
structure z3Qd (s:Int) (r:List (List UInt8)) (l:List z2n):Prop where
 hs:inI s
 hr:z9n r
 hrl:r.length≤1000000
 he:z2vb l
 hn:l.length≤200
def gLs (d:z0a):Int:=match d with| .agg (a::_)=>asI a|_=>0
def z3xc:z1f:=⟨fun ds=>∃(s:Int) (r:List (List UInt8)) (l:List z2n),z3Qd s r l∧ds=[z65c s none none r l],fun ds=>bo (z7vc (gLs (nth ds 0)) (z5Cb (nth ds 0)).roots.length (z5Cb (nth ds 0)).ents)⟩
theorem z5cd {s:Int} {r:List (List UInt8)} {l:List z2n} (h:z3Qd s r l):z3xc.pre [z65c s none none r l]=True:=eq_true ⟨s,r,l,h,rfl⟩
theorem z3pc {s:Int} {r:List (List UInt8)} {l:List z2n} (h:z3Qd s r l):z3xc.post [z65c s none none r l]=bo (z7vc s r.length l):=by
 show bo (z7vc s (gDs (.sl .plain none r.length (bys (dgs r)))).length (z7vb l.length (z6ra l)))=_
 rw[z1Ea h.hr,z5ib h.he]
theorem z4Cd {l:List z2n} {i:Nat} (h:i<l.length) (hn:z2Zd l i=false):z57d l=false:=by
 cases hv:z57d l with
 |false=>rfl
 |true=>
  have:=List.all_eq_true.1 hv i (List.mem_range.2 h)
  rw[hn] at this;cases this
theorem z78c {l:List z2n} (h:∀j<l.length,z2Zd l j=true):z57d l=true:=List.all_eq_true.2 fun i hi=>h i (List.mem_range.1 hi)
theorem z4Kd {s:Int} {r:List (List UInt8)} {l:List z2n} (h:z3Qd s r l) (hv:z7vc s r.length l=true):0≤s∧z0n.ok ⟨s.toNat,r,l⟩∧s≤60000:=by
 simp only[z7vc,okP,Bool.and_eq_true,decide_eq_true_eq] at hv
 refine⟨hv.1.2.1.1,⟨h.hr,hv.1.2.2,h.he,by have:=h.hn;simp only;omega,?_⟩,hv.2⟩
 have:=h.hn
 simp only
 omega
set_option maxHeartbeats 8000000 in
theorem z47c (E:Env) (h331:E.G 331=z6cc) (h211:E.G 211=z37b):∀ds,z3xc.pre ds→ds.length=z5ra.n∧awp E z5ra.body (z6va z5ra.res (z3xc.post ds)) (z4H z5ra.wr ds):=by
 rintro _ ⟨s,r,l,h,rfl⟩
 rw[z3pc h]
 have hlen:=z4ta h.he
 have hn:=h.hn
 have v1:=z3Ib (nl:=none) h.hs h.hr h.hrl rfl rfl
 have v2:=z9eb (n:=s) (m:= .plain) (nl:=none) h.hr rfl rfl
 unfold z65c z5Aa z5sa
 generalize hQf:z6va z5ra.res (bo (z7vc s r.length l))=Qf
 simp(maxSteps:=1000000) (disch:=first|omega|simp;done|simp;omega) [z7G,z8pa,z7pa,z5ra]
 refine z1g fun Q1 hQ1=> ?_
 refine z2v (fun i:Nat=>⟨[(0,.agg [i64 s,.sl .plain none r.length (bys (dgs r)),.sl .plain none l.length (z6ra l)])],[(1,.bp 1 0),(6,.sl .plain none l.length (z6ra l)),(7,i64 l.length),(8,i64 i)],[(1,some [i64 s,.sl .plain none r.length (bys (dgs r)),.sl .plain none l.length (z6ra l)])]⟩) (fun i=>l.length-i) (fun i=>i≤l.length∧∀j<i,z2Zd l j=true) 0 (by simp) (by simp) fun i hi=> ?_
 obtain⟨hi,hj⟩:=hi
 refine z1g fun Q2 hQ2=> ?_
 by_cases c:i<l.length
 ·have hx:=h.he _ (z7xd c)
  have hat:=z8Ab h.he c
  rw[←z5vc c] at hat
  have hxl:=z5vb hx
  have p1:z6cc.pre [.agg (z7va none none none (atE l i))]=True:=z2uc hx
  have p2:z6cc.post [.agg (z7va none none none (atE l i))]=bo (okE (atE l i)):=z0Hb hx
  have hno:=z4Cd c
  have hst:∀j<i+1,j<i∨j=i:=fun j hj=>by omega
  have hpr:0<i→hdA ((z6ra l).drop ((i-1)*30))=i64 (atE l (i-1)).time:=fun h0=>by rw[z1xc h.he (show i-1<l.length by omega),z5vc (by omega)]
  have hok:z2Zd l i=(okE (atE l i)&&(decide (i=0)||decide ((atE l (i-1)).time≤(atE l i).time))):=rfl
  have hx0:=z8jd none none none (atE l i)
  generalize hX:atE l i=x at*
  generalize hY:atE l (i-1)=y at*
  have hle2:30≤l.length*30-i*30:=by omega
  have hle3:i*30≤l.length*30:=by omega
  have i1:((i:Int)-1).toNat=i-1:=by omega
  have htk:List.take 30 (z7va none none none x)=z7va none none none x:=List.take_of_length_le (by omega)
  have sp:splice (i64 0::i64 0::i64 0::i64 0::i64 0::i64 0::i64 0::i64 0::i64 0::i64 0::st []:: .sl .plain none 0 []::(bys (z5j 16)++[.sl (.own 24) none 0 [],.sl (.own 1) none 0 []])) 0 (z7va none none none x)=z7va none none none x:=z2Ic rfl hxl
  cases b1:okE x with
  |false=>
   have hz:z7vc s r.length l=false:=by rw[z7vc,hno (by rw[hok,b1];rfl)];rfl
   simp(maxSteps:=1000000) (disch:=first|omega|simp;done|simp;omega) [z7G,z8pa,z7pa,z9ta,z6ya,kT,kF,dT,dF,c,hlen,hat,hxl,htk,hle2,hle3,sp,hQ2,hQ1,h331,p1,p2,b1,z5ra,←hQf,hz]
   skip
  |true=>
   by_cases b2:i=0
   ·subst b2
    have hat0:List.take 30 (z6ra l)=z7va none none none x:=by simpa using hat
    have h30:30≤l.length*30:=by omega
    simp(maxSteps:=1000000) (disch:=first|omega|simp;done|simp;omega) [z7G,z8pa,z7pa,z9ta,z6ya,kT,kF,dT,dF,c,hlen,hat,hxl,htk,hle2,hle3,sp,hQ2,hQ1,h331,p1,p2,b1,hat0,h30]
    refine⟨1,by omega,⟨by omega,fun j hj'=> ?_⟩,by omega⟩
    obtain rfl:j=0:=by omega
    rw[hok];simp[b1]
   ·have b3:0<i:=by omega
    have hy:=hpr b3
    by_cases b4:x.time<y.time
    ·have hz:z7vc s r.length l=false:=by rw[z7vc,hno (by rw[hok];simp[b2,b4])];rfl
     simp(maxSteps:=1000000) (disch:=first|omega|simp;done|simp;omega) [z7G,z8pa,z7pa,z9ta,z6ya,kT,kF,dT,dF,c,hlen,hat,hxl,htk,hle2,hle3,sp,hQ2,hQ1,h331,p1,p2,b1,b3,b4,i1,hy,hx0,z5ra,←hQf,hz]
     exact⟨⟨by omega,by omega⟩,by omega⟩
    ·simp(maxSteps:=1000000) (disch:=first|omega|simp;done|simp;omega) [z7G,z8pa,z7pa,z9ta,z6ya,kT,kF,dT,dF,c,hlen,hat,hxl,htk,hle2,hle3,sp,hQ2,hQ1,h331,p1,p2,b1,b3,b4,i1,hy,hx0]
     refine⟨⟨by omega,by omega⟩,by omega,i+1,by omega,⟨by omega,fun j hj'=> ?_⟩,by omega⟩
     rcases hst j hj' with h'|rfl
     ·exact hj j h'
     ·rw[hok];simp[b1,Int.not_lt.1 b4]
 ·obtain rfl:i=l.length:=by omega
  have hz:z57d l=true:=z78c hj
  cases b1:okP s r.length with
  |false=>
   have hz:z7vc s r.length l=false:=by rw[z7vc,b1];simp
   simp(maxSteps:=1000000) (disch:=first|omega|simp;done|simp;omega) [z7G,z8pa,z7pa,z9ta,z7Ia,kT,kF,dT,dF,hQ2,hQ1,z5ra,←hQf,h211,v1,v2,hz,b1]
   skip
  |true=>
   have hz:z7vc s r.length l=decide (s≤60000):=by rw[z7vc,b1,hz];rfl
   simp(maxSteps:=1000000) (disch:=first|omega|simp;done|simp;omega) [z7G,z8pa,z7pa,z9ta,z7Ia,kT,kF,dT,dF,hQ2,hQ1,z5ra,←hQf,h211,v1,v2,hz,b1]
   skip
end Go.Abs
end

section
namespace Go.Abs
theorem z6vd (E:Env) (h12:E.G 12=z2L):∀ds,z1Xa.pre ds→ds.length=z6Qa.n∧awp E z6Qa.body (z6va z6Qa.res (z1Xa.post ds)) (z4H z6Qa.wr ds):=by
 rintro _ ⟨nl,l,hl,hm,rfl⟩
 rw[z1Xa,z1qb]
 have hi0:=z7Aa (n:=l.length) (z9jc (by omega))
 simp(maxSteps:=1000000) (disch:=first|omega|simp;done|simp;omega) [z7G,z8pa,z7pa,z6Qa,h12,z1bc]
 refine z1g fun Q0 hQ0=> ?_
 refine z2v (fun i:Nat=>⟨[(0,.sl .plain nl l.length (z1Aa l))],[(3,.sl (.own 1) (some false) (z4r l.length++(l.take i).flatMap z4r).length (bys (z4r l.length++(l.take i).flatMap z4r))),(9,.sl .plain nl l.length (z1Aa l)),(10,i64 l.length),(11,i64 i)],[]⟩) (fun i=>l.length-i) (· ≤l.length) 0 (by simp) (by simp) fun i hi=> ?_
 refine z1g fun Q1 hQ1=> ?_
 simp(maxSteps:=1000000) (disch:=first|omega|simp;done|simp;omega) [z7G,z8pa,z7pa,z8Db,-List.length_flatMap]
 rw[z4h]
 refine⟨by simp,fun h1=> ?_,fun h1=> ?_⟩<;>simp at h1
 ·have h1':i<l.length:=by omega
  have hs:=z7za l z4r 0 h1'
  rw[show l.getD i 0=atI l i from rfl] at hs
  obtain⟨g0,g1⟩:=hm _ (z2Ob h1')
  have g2:=z7Aa (hm _ (z2Ob h1'))
  have g3:=z2ta (l:=l.take i) fun x hx=>hm x (List.mem_of_mem_take hx)
  rw[List.length_take] at g3
  generalize hF:(l.take i).flatMap z4r=F at*
  generalize hX:atI l i=x at*
  simp(maxSteps:=1000000) (disch:=first|omega|simp;done|simp;omega) [z7G,z8pa,z7pa,z7Db,z3lb,hX,h12,z1bc,hQ1,-List.length_flatMap]
  refine⟨by omega,by omega,by omega,i+1,by omega,by omega,⟨?_,hs.symm⟩,by simp⟩
  rw[hs,List.length_append];omega
 ·have e:i=l.length:=by omega
  subst e
  simp(maxSteps:=1000000) (disch:=first|omega|simp;done|simp;omega) [z7G,z8pa,z7pa,hQ1,hQ0,z7Cb,z3be,z6y,-List.length_flatMap]
theorem z87c (E:Env) (h30:E.G 30=z72b):∀ds,z4Xa.pre ds→ds.length=z4xa.n∧awp E z4xa.body (z6va z4xa.res (z4Xa.post ds)) (z4H z4xa.wr ds):=by
 rintro _ ⟨nl,l,hl,hm,rfl⟩
 rw[z4Xa,z1qb]
 have hi0:=z7Aa (n:=l.length) (z9jc (by omega))
 simp(maxSteps:=1000000) (disch:=first|omega|simp;done|simp;omega) [z7G,z8pa,z7pa,z4xa,h30,z5Jb]
 refine z1g fun Q0 hQ0=> ?_
 refine z2v (fun i:Nat=>⟨[(0,.sl .plain nl l.length (z1Aa l))],[(3,.sl (.own 1) none (z4r l.length++(l.take i).flatMap z4r).length (bys (z4r l.length++(l.take i).flatMap z4r))),(4,i64 i)],[]⟩) (fun i=>l.length-i) (· ≤l.length) 0 (by simp) (by simp) fun i hi=> ?_
 refine z1g fun Q1 hQ1=> ?_
 simp(maxSteps:=1000000) (disch:=first|omega|simp;done|simp;omega) [z7G,z8pa,z7pa,z5Ya,-List.length_flatMap]
 rw[z4h]
 refine⟨by simp,fun h1=> ?_,fun h1=> ?_⟩<;>simp at h1
 ·have h1':i<l.length:=by omega
  have hs:=z7za l z4r 0 h1'
  rw[show l.getD i 0=atI l i from rfl] at hs
  obtain⟨g0,g1⟩:=hm _ (z2Ob h1')
  have g2:=z7Aa (hm _ (z2Ob h1'))
  have g3:=z2ta (l:=l.take i) fun x hx=>hm x (List.mem_of_mem_take hx)
  rw[List.length_take] at g3
  generalize hF:(l.take i).flatMap z4r=F at*
  generalize hX:atI l i=x at*
  simp(maxSteps:=1000000) (disch:=first|omega|simp;done|simp;omega) [z7G,z8pa,z7pa,z4Ya,z3lb,hX,h30,z5Jb,hQ1,-List.length_flatMap]
  refine⟨by omega,by omega,by omega,i+1,by omega,by omega,⟨?_,hs.symm⟩,by simp⟩
  rw[hs,List.length_append];omega
 ·have e:i=l.length:=by omega
  subst e
  simp(maxSteps:=1000000) (disch:=first|omega|simp;done|simp;omega) [z7G,z8pa,z7pa,hQ1,hQ0,z20a,z3be,z6y,-List.length_flatMap]
end Go.Abs
end
