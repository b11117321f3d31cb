/- Lemmas: an abstract interpreter, and what the functions compute. -/
import Derived.Test.YtepddcbbkhdfiaaGreatDoorI
import Derived.Test.YtepddcbbkhdfiaaGreatDoorG
import Derived.Test.YtepddcbbkhdfiaaGreatDoorO
set_option linter.unusedSimpArgs false
set_option linter.unusedVariables false
set_option linter.unusedSectionVars false
section
namespace Go.Abs
set_option maxRecDepth 100000
def z0ua:z1c:=
 YR [10] [.norm [5,9,11,13,15,17,19]] [YT 162 391 [],Ym 163 162,YG 163 (Ym 164 2),YG 163 (Ym 165 1),YG 163 (Yb 166 .lss 164 165),YG 163 (Ym 167 166),Yg 167 (YL 168 3 17 17),Yg 167 (YL 169 3 19 19),Yg 167 (YK 170 377 168 169),Yg 167 (Ym 171 170),YG 171 (Ym 172 18),YG 171 (Ym 173 20),YG 171 (Yb 174 .eql 172 173),Yg 167 (Yp 175 171 174),YG 163 (YP 176 167 175),Yp 177 163 176,Ym 178 177,YG 178 (Ym 179 3),YG 178 (Ym 180 1),YG 178 (Yb 181 .lss 179 180),YG 178 (Ym 182 181),Yg 182 (Ym 183 21),Yg 182 (Ym 184 23),Yg 182 (YK 185 60 183 184),Yg 182 (Ym 186 185),YG 186 (Ym 187 22),YG 186 (Ym 188 24),YG 186 (Yb 189 .eql 187 188),Yg 182 (Yp 190 186 189),YG 178 (YP 191 182 190),Yp 192 178 191,Ym 10 192] .ret
def z9ta:z1c:=
 YR [5,11,17,18] [.norm [5,9,11,13,15,17]] [YL 121 3 5 5,Ym 122 2,Ym 123 3,Yt 124 360 121 122 123,Ym 120 124,Ye 125 0 120,Ye 126 1 120,Yo 17 (.alloc 17 [i64 0,.sl .plain none 0 [],.sl .plain none 0 []]),Ys 3 17 17 125,Ym 18 126] (YR [5,11,17,18,19,20] [.norm [5,9,11,13,15,17,19]] [YL 128 3 11 11,Ym 129 2,Ym 130 3,Yt 131 360 128 129 130,Ym 127 131,Ye 132 0 127,Ye 133 1 127,Yo 19 (.alloc 19 [i64 0,.sl .plain none 0 [],.sl .plain none 0 []]),Ys 3 19 19 132,Ym 20 133] (YR [11,17,18,19,20,21,22] [.norm [5,9,11,13,15,17,19]] [YL 135 3 5 5,Ym 136 3,YK 137 353 135 136,Ym 134 137,Ye 138 0 134,Ye 139 1 134,YM 21 138,Ym 22 139] (YR [17,18,19,20,21,22,23,24] [.norm [5,9,11,13,15,17,19]] [YL 141 3 11 11,Ym 142 3,YK 143 353 141 142,Ym 140 143,Ye 144 0 140,Ye 145 1 140,YM 23 144,Ym 24 145] (Yq (Yr [17,18,19,20,21,22,23,24,161] [Ym 146 2,Ym 147 1,Yb 148 .lss 146 147,Ym 149 148,YG 149 (Ym 150 20),YG 149 (YB 151 .eql 150 0),Yp 152 149 151,Ym 153 152,Yg 153 (Ym 154 3),Yg 153 (Ym 155 1),Yg 153 (Yb 156 .lss 154 155),Yg 153 (Ym 157 156),YG 157 (Ym 158 24),YG 157 (YB 159 .eql 158 0),Yg 153 (Yp 160 157 159),YP 161 153 160] (Yd 161 (Yr [10] [Yw 10 false] .ret) (Yy [17,18,19,20,21,22,23,24]))) z0ua))))
def z7sa:z1c:=
 Yq (YR [5,11,119] [.norm [5,9,11,13,15]] [YL 108 3 11 11,Yk 109 349 108,YL 110 3 5 5,Yk 111 349 110,Yb 112 .neq 109 111,Ym 113 112,Yg 113 (YL 114 3 11 11),Yg 113 (Yk 115 355 114),Yg 113 (YL 116 3 5 5),Yg 113 (Yk 117 355 116),Yg 113 (Yo 118 (.eqF (ks8 16) true (.s 115) (.s 117))),YP 119 113 118] (Yd 119 (Yr [10] [Yw 10 false] .ret) (Yy [5,11]))) z9ta
def z7ta:z1c:=
 YR [5,9,11,13,14] [.norm [5,9,11,13]] [YL 89 3 5 5,YL 90 30 9 9,YK 91 357 89 90,Ym 88 91,Ye 92 0 88,Ye 93 1 88,Yo 13 (.alloc 13 [i64 0,.sl .plain none 0 [],.sl .plain none 0 []]),Ys 3 13 13 92,Ym 14 93] (YR [5,11,13,14,15,16] [.norm [5,9,11,13,15]] [YL 95 3 11 11,YL 96 30 9 9,YK 97 357 95 96,Ym 94 97,Ye 98 0 94,Ye 99 1 94,Yo 15 (.alloc 15 [i64 0,.sl .plain none 0 [],.sl .plain none 0 []]),Ys 3 15 15 98,Ym 16 99] (Yq (Yr [5,11,13,15,105] [Ym 100 14,YB 101 .eql 100 0,Ym 102 101,YG 102 (Ym 103 16),YG 102 (YB 104 .eql 103 0),Yp 105 102 104] (Yd 105 (.region [5,11] [.norm [5,9,11,13,15]] [YL 106 3 13 13,YL 107 3 15 15,Ys 3 5 5 106,Ys 3 11 11 107]) (Yy [5,11]))) z7sa))
def z8ta:z1c:=
 Yq (YR [5,9,11,87] [.norm [5,9,11]] [Yf 73 0 11,Yf 74 0 73,Yl 75 11 74,Ym 76 1,Yb 77 .neq 75 76,Ym 78 77,Yg 78 (Yf 79 2 11),Yg 78 (Yl 80 11 79),Yg 78 (Yn 81 80),Yg 78 (YL 82 3 5 5),Yg 78 (Yk 83 375 82),Yg 78 (Ym 84 1),Yg 78 (Yb 85 .sub 83 84),Yg 78 (Yb 86 .neq 81 85),YP 87 78 86] (Yd 87 (Yr [10] [Yw 10 false] .ret) (Yy [5,9,11]))) z7ta
def z8ra:z1c:=
 YR [5,9,11,12] [.norm [5,9,11]] [YL 42 3 5 5,Ym 43 1,YK 44 359 42 43,Ym 41 44,Ye 45 0 41,Ye 46 1 41,Yo 11 (.alloc 11 [i64 0,.sl .plain none 0 [],.sl .plain none 0 []]),Ys 3 11 11 45,Ym 12 46] (Yq (Yr [5,9,11,12,48] [Ym 47 12,YB 48 .neq 47 0] (Yd 48 (YR [10] [.norm [5,9,11]] [YT 49 391 [],Ym 50 49,YG 50 (Ym 51 12),YG 50 (YB 52 .eql 51 11),Yp 53 50 52,Ym 54 53,YG 54 (Ym 55 1),YG 54 (Yf 56 0 5),YG 54 (Yf 57 0 56),YG 54 (Yl 58 5 57),YG 54 (Yb 59 .lss 55 58),YG 54 (Ym 60 59),Yg 60 (Ym 61 1),Yg 60 (YL 62 3 5 5),Yg 60 (Yk 63 375 62),Yg 60 (Yb 64 .gtr 61 63),YG 54 (YP 65 60 64),Yp 66 54 65,Ym 67 66,YG 67 (Yf 68 2 11),YG 67 (Yl 69 11 68),YG 67 (Yn 70 69),YG 67 (YB 71 .eql 70 0),Yp 72 67 71,Ym 10 72] .ret) (Yy [5,9,11]))) z8ta)
def z9qa:z1ka:=
 {n:=5,wr:=[],res:=[.t 10],body:=YR [5,9] [.norm [5,9]] [Yx 5 5 3 0,Yx 9 9 30 4,Yw 10 false] (Yq (YR [5,9,39] [.norm [5,9]] [Yf 25 2 5,Yl 26 5 25,Yk 27 389 26,Yo 28 (.un .not (.s 27)),Ym 29 28,Yg 29 (YL 30 30 9 9),Yg 29 (Yo 31 (.buildSl 30 1 [i64 0,i64 0,i64 0,i64 0,i64 0,i64 0,i64 0,i64 0,i64 0,i64 0,st [],.sl .plain none 0 [],u8 0,u8 0,u8 0,u8 0,u8 0,u8 0,u8 0,u8 0,u8 0,u8 0,u8 0,u8 0,u8 0,u8 0,u8 0,u8 0,.sl .plain none 0 [],.sl .plain none 0 []] [(0,30,.s 30)])),Yg 29 (Yk 32 389 31),Yg 29 (Yo 33 (.un .not (.s 32))),YP 34 29 33,Ym 35 34,Yg 35 (YL 36 3 5 5),Yg 35 (Yk 37 390 36),Yg 35 (Yo 38 (.un .not (.s 37))),YP 39 35 38] (Yd 39 (Yr [10] [YT 40 391 [],Ym 10 40] .ret) (Yy [5,9]))) z8ra)}
def z0Za:z1c:=
 Yq (.block 1 (YR [3,5,6,7,8] [.norm [5]] [Yi 10 30 6 8,YJ 11 30 10,Yo 5 (.alloc 5 (List.replicate 10 (i64 0)++[st []]++[.sl .plain none 0 []]++bys (z5j 16)++[.sl (.own 24) none 0 []]++[.sl (.own 1) none 0 []])),Ys 30 5 5 11] (.region [3,6,7,8] [.norm [5]] [Ym 12 3,Yf 13 28 5,Yl 14 5 13,Yn 15 14,Yo 16 (.bin .add (.c (i64 1)) (.s 15)),Yf 17 29 5,Yl 18 5 17,Yn 19 18,Yb 20 .add 16 19,Yf 21 4 5,Yf 22 7 21,Yl 23 5 22,Yn 24 23,Yb 25 .add 20 24,Yf 26 4 5,Yf 27 6 26,Yl 28 5 27,Yo 29 (.len true (.s 28)),YB 30 .quo 29 100,Yb 31 .add 25 30,Yb 32 .add 12 31,Ym 3 32]))) (.region [3,6,7,8] [.drop [5]] [YB 33 .add 8 1,Ym 8 33])
def z9Ia:z1c:=
 Yr [3,6,7,8,9] [Yb 9 .lss 8 7] (Yq (Yd 9 (Yy [3,6,7,8]) (YY [3])) z0Za)
def z1Za:z1c:=
 Yr [2] [Ym 34 3,YB 35 .leq 34 200,Ym 2 35] .ret
def z5ua:z1ka:=
 {n:=1,wr:=[],res:=[.t 2],body:=Yr [] [Yw 2 false] (Yr [3] [Yc 3 0] (Yq (Yr [3,6,7,8] [Ym 6 0,Yn 7 6,Yc 8 0] (.block 0 (.loop z9Ia))) z1Za))}
def z2wa:z1c:=
 Yq (.block 1 (YR [1,3,4,6,7,8] [.norm [1,4]] [Ym 10 8,Yi 11 30 6 8,YJ 12 30 11,Yo 4 (.alloc 4 (List.replicate 10 (i64 0)++[st []]++[.sl .plain none 0 []]++bys (z5j 16)++[.sl (.own 24) none 0 []]++[.sl (.own 1) none 0 []])),Ym 3 10,Ys 30 4 4 12] (YR [1,6,7,8,31] [.norm [1,4]] [YL 13 30 4 4,Yk 14 331 13,Yo 15 (.un .not (.s 14)),Ym 16 15,Yg 16 (Ym 17 3),Yg 16 (YB 18 .gtr 17 0),Yg 16 (Ym 19 18),YG 19 (Yf 20 0 4),YG 19 (Yl 21 4 20),YG 19 (Yf 22 2 1),YG 19 (Yl 23 1 22),YG 19 (Ym 24 3),YG 19 (YB 25 .sub 24 1),YG 19 (Yi 26 30 23 25),YG 19 (Yf 27 0 26),YG 19 (Yj 28 27),YG 19 (Yb 29 .lss 21 28),Yg 16 (Yp 30 19 29),YP 31 16 30] (Yd 31 (Yr [2] [Yw 2 false] .ret) (Yy [1,6,7,8]))))) (.region [1,6,7,8] [.drop [4]] [YB 32 .add 8 1,Ym 8 32])
def z8sa:z1c:=
 Yr [1,6,7,8,9] [Yb 9 .lss 8 7] (Yq (Yd 9 (Yy [1,6,7,8]) (YY [1])) z2wa)
def z5Fa:z1c:=
 YR [2] [.norm [1,4]] [Yf 33 0 1,YL 34 2 1 33,Yk 35 211 34,Ym 36 35,YG 36 (Yf 37 0 1),YG 36 (Yf 38 0 37),YG 36 (Yl 39 1 38),YG 36 (YB 40 .leq 39 60000),Yp 41 36 40,Ym 2 41] .ret
def z4ra:z1ka:=
 {n:=1,wr:=[],res:=[.t 2],body:=YR [1] [.norm [1]] [Yx 1 1 3 0,Yw 2 false] (Yq (YR [1,6,7,8] [.norm [1]] [Yf 5 2 1,Yl 6 1 5,Yn 7 6,Yc 8 0] (.block 0 (.loop z8sa))) z5Fa)}
def z6nb:z1ka:=
 {n:=0,wr:=[],res:=[.t 0],body:=Yr [] [Yo 0 (.mv true (.c (.sl (.own 30) none 0 [])))] (Yr [0] [Yo 1 (.build (List.replicate 10 (i64 0)++[st []]++[.sl .plain none 0 []]++bys (z5j 16)++[.sl .plain none 0 []]++[.sl .plain none 0 []]) [(0,1,.c (i64 1)),(3,1,.c (i64 1))]),Yo 2 (.build (List.replicate 10 (i64 0)++[st []]++[.sl .plain none 0 []]++bys (z5j 16)++[.sl .plain none 0 []]++[.sl .plain none 0 []]) [(0,1,.c (i64 1)),(3,1,.c (i64 2))]),Yo 3 (.build (List.replicate 10 (i64 0)++[st []]++[.sl .plain none 0 []]++bys (z5j 16)++[.sl .plain none 0 []]++[.sl .plain none 0 []]) [(0,1,.c (i64 4)),(3,1,.c (i64 1))]),Yo 4 (.buildSl 30 3 [i64 0,i64 0,i64 0,i64 0,i64 0,i64 0,i64 0,i64 0,i64 0,i64 0,st [],.sl .plain none 0 [],u8 0,u8 0,u8 0,u8 0,u8 0,u8 0,u8 0,u8 0,u8 0,u8 0,u8 0,u8 0,u8 0,u8 0,u8 0,u8 0,.sl .plain none 0 [],.sl .plain none 0 [],i64 0,i64 0,i64 0,i64 0,i64 0,i64 0,i64 0,i64 0,i64 0,i64 0,st [],.sl .plain none 0 [],u8 0,u8 0,u8 0,u8 0,u8 0,u8 0,u8 0,u8 0,u8 0,u8 0,u8 0,u8 0,u8 0,u8 0,u8 0,u8 0,.sl .plain none 0 [],.sl .plain none 0 [],i64 0,i64 0,i64 0,i64 0,i64 0,i64 0,i64 0,i64 0,i64 0,i64 0,st [],.sl .plain none 0 [],u8 0,u8 0,u8 0,u8 0,u8 0,u8 0,u8 0,u8 0,u8 0,u8 0,u8 0,u8 0,u8 0,u8 0,u8 0,u8 0,.sl .plain none 0 [],.sl .plain none 0 []] [(0,30,.s 1),(30,30,.s 2),(60,30,.s 3)]),YM 0 4] .ret)}
end Go.Abs
end

section
namespace Go.Abs
set_option maxRecDepth 100000
def okL (l:List z2n):Prop:=∀x∈l,x.ok
theorem z8Hb {x:z2n} (h:x.ok):(z0va none none none x).length=30:=z8Qa h.2.2.2.2.2.1
theorem z7Dc {l:List z2n} (h:okL l):(z0sa l).length=l.length*30:=by
 induction l with
 |nil=>rfl
 |cons a l ih=>
  have:=ih fun m hm=>h m (by simp[hm])
  rw[z0sa] at this⊢
  rw[List.flatMap_cons,List.length_append,this,z8Hb (h a (by simp)),List.length_cons];omega
theorem z8Lc {l:List z2n} (h:okL l) {i:Nat} (hi:i<l.length):((z0sa l).drop (i*30)).take 30=z0va none none none l[i]:=by
 have e1:=z7kb (enc:=z0va none none none) (P:=z2n.ok) (w:=30) (fun a ha=>z8Hb ha) l i h
 rw[show z0sa l=l.flatMap (z0va none none none) from rfl,e1,List.drop_eq_getElem_cons hi,List.flatMap_cons,List.take_left' (z8Hb (h _ (List.getElem_mem hi)))]
theorem z9Pc {l:List z2n} (h:okL l):z9xb l.length (z0sa l)=l:=z9Uc (enc:=z0va none none none) (P:=z2n.ok) (fun a ha=>z8Hb ha) (fun a ha=>z8ac ha.2.2.2.2.2.1 (z0Ba ha.2.2.2.2.2.2.1)) l h
def wE (x:z2n):Nat:=1+x.made.length+x.gone.length+x.cmd.list.length+x.cmd.data.length/100
def z4ma (l:List z2n):Nat:=(l.map wE).sum
def z8Gc (l:List z2n):Bool:=decide (z4ma l≤200)
theorem z5Jc {l:List z2n} {i:Nat} (h:i<l.length):z4ma (l.take (i+1))=z4ma (l.take i)+wE l[i]:=by
 rw[z4ma,z4ma,List.take_succ_eq_append_getElem h,List.map_append,List.sum_append];simp
theorem z2Cd (l:List z2n) (i:Nat):z4ma (l.take i)≤z4ma l:=by
 conv=>rhs;rw[←List.take_append_drop i l]
 rw[z4ma,z4ma,List.map_append,List.sum_append];omega
theorem z5be {l:List z2n} {x:z2n} (h:x∈l):wE x≤z4ma l:=by
 induction l with
 |nil=>cases h
 |cons a l ih=>
  have e:z4ma (a::l)=wE a+z4ma l:=by simp[z4ma]
  rw[e]
  rcases List.mem_cons.1 h with rfl|h
  ·omega
  ·have:=ih h;omega
theorem z2wc (l:List z2n):l.length≤z4ma l:=by
 induction l with
 |nil=>simp
 |cons a l ih=>
  have e:z4ma (a::l)=wE a+z4ma l:=by simp[z4ma]
  have:1≤wE a:=by unfold wE;omega
  rw[e,List.length_cons];omega
def z9Vb:z1f:=⟨fun ds=>∃(nl:Option Bool) (l:List z2n),okL l∧z4ma l≤1000000000∧ds=[z5ta nl l],fun ds=>bo (z8Gc (z9xb (gNn (nth ds 0)) (gCs (nth ds 0))))⟩
theorem z8tc {nl:Option Bool} {l:List z2n} (h:okL l) (hs:z4ma l≤1000000000):z9Vb.pre [z5ta nl l]=True:=eq_true ⟨nl,l,h,hs,rfl⟩
theorem z1Qb {nl:Option Bool} {l:List z2n} (h:okL l):z9Vb.post [z5ta nl l]=bo (z8Gc l):=by
 show bo (z8Gc (z9xb l.length (z0sa l)))=_
 rw[z9Pc h]
theorem z8Zb {l:List z2n} (h:okL l) (hf:z8Gc l=true):z3Ab l∧l.length≤200:=by
 have hs:z4ma l≤200:=by simpa[z8Gc] using hf
 refine⟨fun x hx=> ?_,Nat.le_trans (z2wc l) hs⟩
 have h1:=z5be hx
 unfold wE at h1
 exact⟨h x hx,⟨(h x hx).2.2.2.2.1,by omega,by omega⟩,by omega,by omega⟩
set_option maxHeartbeats 8000000 in
theorem z9kd (E:Env):∀ds,z9Vb.pre ds→ds.length=z5ua.n∧awp E z5ua.body (z4xa z5ua.res (z9Vb.post ds)) (z4H z5ua.wr ds):=by
 rintro _ ⟨nl,l,h,hs,rfl⟩
 rw[z1Qb h]
 unfold z5ta
 have hlen:=z7Dc h
 have hl:=z2wc l
 generalize hQf:z4xa z5ua.res (bo (z8Gc l))=Qf
 simp(maxSteps:=1000000) (disch:=first|omega|(simp;done)|(simp;omega)) [z6G,z8pa,z7pa,z5ua]
 refine z1g fun Q1 hQ1=> ?_
 refine z1v (fun i:Nat=>⟨[(0,.sl .plain nl l.length (z0sa l))],[(3,i64 (z4ma (l.take i):Nat)),(6,.sl .plain nl l.length (z0sa l)),(7,i64 l.length),(8,i64 i)],[]⟩) (fun i=>l.length-i) (fun i=>i≤l.length) 0 (by simp[z4ma]) (by simp) fun i hi=> ?_
 refine z1g fun Q2 hQ2=> ?_
 by_cases c:i<l.length
 ·have hx:=h _ (List.getElem_mem c)
  have hat:=z8Lc h c
  have hsum:=z5Jc c
  have hle:=z2Cd l (i+1)
  have hxl:=z8Hb hx
  generalize hX:l[i]=x at*
  have hd:=hx.2.2.2.2.2.1
  have a7:hdA ((z0va none none none x).drop 11)= .sl .plain none x.cmd.list.length (z6Ba x.cmd.list):=rfl
  have a6:hdA ((z0va none none none x).drop 10)=st x.cmd.data:=rfl
  have a28:hdA ((z0va none none none x).drop 28)= .sl .plain none x.made.length (z5za x.made):=z7Lb hd
  have a29:hdA ((z0va none none none x).drop 29)= .sl .plain none x.gone.length (z6Ba x.gone):=z6Lb hd
  have hle2:30≤l.length*30-i*30:=by omega
  have hle3:i*30≤l.length*30:=by omega
  have hw:wE x=1+x.made.length+x.gone.length+x.cmd.list.length+x.cmd.data.length/100:=rfl
  have htk:List.take 30 (z0va none none none x)=z0va none none none x:=List.take_of_length_le (by omega)
  generalize hS:z4ma (l.take i)=S at*
  have sp:splice (i64 0::i64 0::i64 0::i64 0::i64 0::i64 0::i64 0::i64 0::i64 0::i64 0::st []:: .sl .plain none 0 []::(bys (z5j 16)++[.sl (.own 24) none 0 [],.sl (.own 1) none 0 []])) 0 (z0va none none none x)=z0va none none none x:=z5Ic rfl hxl
  simp(maxSteps:=1000000) (disch:=first|omega|(simp;done)|(simp;omega)) [z6G,z8pa,z7pa,z9Ia,z0Za,kT,kF,dT,dF,c,hlen,hat,hxl,htk,a6,a7,a28,a29,hle2,hle3,sp,hQ2]
  exact⟨i+1,by omega,by omega,by rw[hsum,hw];omega,by omega⟩
 ·obtain rfl:i=l.length:=by omega
  have hd:decide (((z4ma l:Nat):Int)≤200)=decide (z4ma l≤200):=decide_eq_decide.2 (by omega)
  simp(maxSteps:=1000000) (disch:=first|omega|(simp;done)|(simp;omega)) [z6G,z8pa,z7pa,z9Ia,z1Za,z5ua,kT,kF,dT,dF,hQ2,hQ1,List.take_length,←hQf,z8Gc,hd]
end Go.Abs
end
