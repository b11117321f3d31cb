/- Lemmas: an abstract interpreter, and what the functions compute. -/
import Derived.Test.YtepddcbbkhdfiaaGreatDoorI
import Derived.Test.YtepddcbbkhdfiaaGreatDoorG
import Derived.Test.YtepddcbbkhdfiaaGreatDoorO
set_option linter.unusedSimpArgs false
set_option linter.unusedVariables false
set_option linter.unusedSectionVars false
section
namespace Go.Abs
set_option maxRecDepth 100000
def z6x:z3a:=
 YR [3,13,15,16] [.norm [3,4,9,11,13]] [YL 113 3 13 13,YL 114 3 3 3,Yk 115 349 114,YK 116 353 113 115,Ym 112 116,Ye 117 0 112,Ye 118 1 112,Ym 15 117,Ym 16 118] (YR [6] [.norm [3,4,9,11,13]] [YT 119 391 [],Ym 120 119,YG 120 (Ym 121 16),YG 120 (YB 122 .eql 121 0),Yp 123 120 122,Ym 124 123,YG 124 (YL 125 3 13 13),YG 124 (Yk 126 349 125),YG 124 (YL 127 3 3 3),YG 124 (Yk 128 349 127),YG 124 (YB 129 .add 128 1),YG 124 (Yb 130 .eql 126 129),Yp 131 124 130,Ym 132 131,YG 132 (YL 133 3 3 3),YG 132 (Yk 134 355 133),YG 132 (YL 135 3 13 13),YG 132 (Yk 136 355 135),YG 132 (YL 137 3 3 3),YG 132 (Yk 138 349 137),YG 132 (YL 139 3 13 13),YG 132 (Yk 140 349 139),YG 132 (Ym 141 15),YG 132 (YT 142 206 [134,136,138,140,141]),Yp 143 132 142,Ym 6 143] .ret)
def z7n:z3a:=
 YR [3,13,14] [.norm [3,4,9,11,13]] [YL 98 3 3 3,YL 99 30 4 4,YK 100 357 98 99,Ym 97 100,Ye 101 0 97,Ye 102 1 97,Yo 13 (.alloc 13 [i64 0,.sl .plain none 0 [],.sl .plain none 0 []]),Ys 3 13 13 101,Ym 14 102] (Yq (Yr [3,13,104] [Ym 103 14,YB 104 .neq 103 0] (Yd 104 (YR [6] [.norm [3,4,9,11,13]] [YT 105 391 [],Ym 106 105,YG 106 (Yf 107 2 13),YG 106 (Yl 108 13 107),YG 106 (Yn 109 108),YG 106 (YB 110 .eql 109 0),Yp 111 106 110,Ym 6 111] .ret) (Yy [3,13]))) z6x)
def z5x:z3a:=
 YR [3,4,7,9,10] [.norm [3,4,9]] [YL 64 3 3 3,Ym 65 2,YK 66 348 64 65,Ym 63 66,Ye 67 0 63,Ye 68 1 63,Yo 9 (.alloc 9 [i64 0,.sl .plain none 0 []]),Ys 2 9 9 67,Ym 10 68] (YR [3,4,7,9,10,11,12] [.norm [3,4,9,11]] [YL 70 2 9 9,Yk 71 213 70,Ym 69 71,Ye 72 0 69,Ye 73 1 69,Yz 11 11 16,Ys 16 11 11 72,Ym 12 73] (Yq (YR [3,4,96] [.norm [3,4,9,11]] [Ym 74 10,YB 75 .neq 74 0,Ym 76 75,Yg 76 (Ym 77 12),Yg 76 (YB 78 .neq 77 0),YP 79 76 78,Ym 80 79,Yg 80 (Yf 81 0 9),Yg 80 (Yl 82 9 81),Yg 80 (Ym 83 2),Yg 80 (Yb 84 .neq 82 83),YP 85 80 84,Ym 86 85,Yg 86 (YL 87 16 11 11),Yg 86 (YL 88 3 3 3),Yg 86 (Yk 89 355 88),Yg 86 (Ym 90 2),Yg 86 (YL 91 3 3 3),Yg 86 (Yk 92 349 91),Yg 86 (Ym 93 7),Yg 86 (YT 94 206 [87,89,90,92,93]),Yg 86 (Yo 95 (.un .not (.s 94))),YP 96 86 95] (Yd 96 (Yr [6] [Yw 6 false] .ret) (Yy [3,4]))) z7n))
def z6g:z3a:=
 YR [3,4,7,8] [.norm [3,4]] [YL 34 3 3 3,Ym 35 2,YK 36 353 34 35,Ym 33 36,Ye 37 0 33,Ye 38 1 33,YM 7 37,Ym 8 38] (Yq (Yr [3,4,7,8,40] [Ym 39 8,YB 40 .neq 39 0] (Yd 40 (YR [6] [.norm [3,4]] [YT 41 391 [],Ym 42 41,YG 42 (Ym 43 8),YG 42 (YB 44 .eql 43 11),Yp 45 42 44,Ym 46 45,YG 46 (Ym 47 2),YG 46 (YB 48 .lss 47 1),YG 46 (Ym 49 48),Yg 49 (Ym 50 2),Yg 49 (Yf 51 0 3),Yg 49 (Yf 52 0 51),Yg 49 (Yl 53 3 52),Yg 49 (Yb 54 .lss 50 53),YG 46 (YP 55 49 54),YG 46 (Ym 56 55),Yg 56 (Ym 57 2),Yg 56 (YL 58 3 3 3),Yg 56 (Yk 59 375 58),Yg 56 (Yb 60 .gtr 57 59),YG 46 (YP 61 56 60),Yp 62 46 61,Ym 6 62] .ret) (Yy [3,4,7]))) z5x)
def z4b:z6e:=
 {n:=3,wr:=[],res:=[.t 6],body:=YR [3,4] [.norm [3,4]] [Yx 3 3 3 0,Yx 4 4 30 1,Yw 6 false] (Yq (YR [3,4,31] [.norm [3,4]] [Yf 17 2 3,Yl 18 3 17,Yk 19 389 18,Yo 20 (.un .not (.s 19)),Ym 21 20,Yg 21 (YL 22 30 4 4),Yg 21 (Yo 23 (.buildSl 30 1 [i64 0,i64 0,i64 0,i64 0,i64 0,i64 0,i64 0,i64 0,i64 0,i64 0,st [],.sl .plain none 0 [],u8 0,u8 0,u8 0,u8 0,u8 0,u8 0,u8 0,u8 0,u8 0,u8 0,u8 0,u8 0,u8 0,u8 0,u8 0,u8 0,.sl .plain none 0 [],.sl .plain none 0 []] [(0,30,.s 22)])),Yg 21 (Yk 24 389 23),Yg 21 (Yo 25 (.un .not (.s 24))),YP 26 21 25,Ym 27 26,Yg 27 (YL 28 3 3 3),Yg 27 (Yk 29 390 28),Yg 27 (Yo 30 (.un .not (.s 29))),YP 31 27 30] (Yd 31 (Yr [6] [YT 32 391 [],Ym 6 32] .ret) (Yy [3,4]))) z6g)}
def z7Q:z3a:=
 Yq (.block 1 (YR [3,5,6,7,8] [.norm [5]] [Yi 10 30 6 8,YJ 11 30 10,Yo 5 (.alloc 5 (List.replicate 10 (i64 0)++[st []]++[.sl .plain none 0 []]++bys (z9c 16)++[.sl (.own 24) none 0 []]++[.sl (.own 1) none 0 []])),Ys 30 5 5 11] (.region [3,6,7,8] [.norm [5]] [Ym 12 3,Yf 13 28 5,Yl 14 5 13,Yn 15 14,Yo 16 (.bin .add (.c (i64 1)) (.s 15)),Yf 17 29 5,Yl 18 5 17,Yn 19 18,Yb 20 .add 16 19,Yf 21 4 5,Yf 22 7 21,Yl 23 5 22,Yn 24 23,Yb 25 .add 20 24,Yf 26 4 5,Yf 27 6 26,Yl 28 5 27,Yo 29 (.len true (.s 28)),YB 30 .quo 29 100,Yb 31 .add 25 30,Yb 32 .add 12 31,Ym 3 32]))) (.region [3,6,7,8] [.drop [5]] [YB 33 .add 8 1,Ym 8 33])
def z1z:z3a:=
 Yr [3,6,7,8,9] [Yb 9 .lss 8 7] (Yq (Yd 9 (Yy [3,6,7,8]) (YY [3])) z7Q)
def z9O:z3a:=
 Yr [2] [Ym 34 3,YB 35 .leq 34 200,Ym 2 35] .ret
def z3i:z6e:=
 {n:=1,wr:=[],res:=[.t 2],body:=Yr [] [Yw 2 false] (Yr [3] [Yc 3 0] (Yq (Yr [3,6,7,8] [Ym 6 0,Yn 7 6,Yc 8 0] (.block 0 (.loop z1z))) z9O))}
def z1k:z3a:=
 Yq (.block 1 (YR [1,3,4,6,7,8] [.norm [1,4]] [Ym 10 8,Yi 11 30 6 8,YJ 12 30 11,Yo 4 (.alloc 4 (List.replicate 10 (i64 0)++[st []]++[.sl .plain none 0 []]++bys (z9c 16)++[.sl (.own 24) none 0 []]++[.sl (.own 1) none 0 []])),Ym 3 10,Ys 30 4 4 12] (YR [1,6,7,8,31] [.norm [1,4]] [YL 13 30 4 4,Yk 14 331 13,Yo 15 (.un .not (.s 14)),Ym 16 15,Yg 16 (Ym 17 3),Yg 16 (YB 18 .gtr 17 0),Yg 16 (Ym 19 18),YG 19 (Yf 20 0 4),YG 19 (Yl 21 4 20),YG 19 (Yf 22 2 1),YG 19 (Yl 23 1 22),YG 19 (Ym 24 3),YG 19 (YB 25 .sub 24 1),YG 19 (Yi 26 30 23 25),YG 19 (Yf 27 0 26),YG 19 (Yj 28 27),YG 19 (Yb 29 .lss 21 28),Yg 16 (Yp 30 19 29),YP 31 16 30] (Yd 31 (Yr [2] [Yw 2 false] .ret) (Yy [1,6,7,8]))))) (.region [1,6,7,8] [.drop [4]] [YB 32 .add 8 1,Ym 8 32])
def z6f:z3a:=
 Yr [1,6,7,8,9] [Yb 9 .lss 8 7] (Yq (Yd 9 (Yy [1,6,7,8]) (YY [1])) z1k)
def z2v:z3a:=
 YR [2] [.norm [1,4]] [Yf 33 0 1,YL 34 2 1 33,Yk 35 211 34,Ym 36 35,YG 36 (Yf 37 0 1),YG 36 (Yf 38 0 37),YG 36 (Yl 39 1 38),YG 36 (YB 40 .leq 39 60000),Yp 41 36 40,Ym 2 41] .ret
def z7d:z6e:=
 {n:=1,wr:=[],res:=[.t 2],body:=YR [1] [.norm [1]] [Yx 1 1 3 0,Yw 2 false] (Yq (YR [1,6,7,8] [.norm [1]] [Yf 5 2 1,Yl 6 1 5,Yn 7 6,Yc 8 0] (.block 0 (.loop z6f))) z2v)}
def z5ma:z6e:=
 {n:=0,wr:=[],res:=[.t 0],body:=Yr [] [Yo 0 (.mv true (.c (.sl (.own 30) none 0 [])))] (Yr [0] [Yo 1 (.build (List.replicate 10 (i64 0)++[st []]++[.sl .plain none 0 []]++bys (z9c 16)++[.sl .plain none 0 []]++[.sl .plain none 0 []]) [(0,1,.c (i64 1)),(3,1,.c (i64 1))]),Yo 2 (.build (List.replicate 10 (i64 0)++[st []]++[.sl .plain none 0 []]++bys (z9c 16)++[.sl .plain none 0 []]++[.sl .plain none 0 []]) [(0,1,.c (i64 1)),(3,1,.c (i64 2))]),Yo 3 (.build (List.replicate 10 (i64 0)++[st []]++[.sl .plain none 0 []]++bys (z9c 16)++[.sl .plain none 0 []]++[.sl .plain none 0 []]) [(0,1,.c (i64 4)),(3,1,.c (i64 1))]),Yo 4 (.buildSl 30 3 [i64 0,i64 0,i64 0,i64 0,i64 0,i64 0,i64 0,i64 0,i64 0,i64 0,st [],.sl .plain none 0 [],u8 0,u8 0,u8 0,u8 0,u8 0,u8 0,u8 0,u8 0,u8 0,u8 0,u8 0,u8 0,u8 0,u8 0,u8 0,u8 0,.sl .plain none 0 [],.sl .plain none 0 [],i64 0,i64 0,i64 0,i64 0,i64 0,i64 0,i64 0,i64 0,i64 0,i64 0,st [],.sl .plain none 0 [],u8 0,u8 0,u8 0,u8 0,u8 0,u8 0,u8 0,u8 0,u8 0,u8 0,u8 0,u8 0,u8 0,u8 0,u8 0,u8 0,.sl .plain none 0 [],.sl .plain none 0 [],i64 0,i64 0,i64 0,i64 0,i64 0,i64 0,i64 0,i64 0,i64 0,i64 0,st [],.sl .plain none 0 [],u8 0,u8 0,u8 0,u8 0,u8 0,u8 0,u8 0,u8 0,u8 0,u8 0,u8 0,u8 0,u8 0,u8 0,u8 0,u8 0,.sl .plain none 0 [],.sl .plain none 0 []] [(0,30,.s 1),(30,30,.s 2),(60,30,.s 3)]),YM 0 4] .ret)}
end Go.Abs
end

section
namespace Go.Abs
set_option maxRecDepth 100000
def okL (l:List z3h):Prop:=∀x∈l,x.ok
theorem z1Ia {x:z3h} (h:x.ok):(z8j none none none x).length=30:=z4V h.2.2.2.2.2.1
theorem z0Sb {l:List z3h} (h:okL l):(z6h l).length=l.length*30:=by
 induction l with
 |nil=>rfl
 |cons a l ih=>
  have:=ih fun m hm=>h m (by simp[hm])
  rw[z6h] at this⊢
  rw[List.flatMap_cons,List.length_append,this,z1Ia (h a (by simp)),List.length_cons];omega
theorem z4Zb {l:List z3h} (h:okL l) {i:Nat} (hi:i<l.length):((z6h l).drop (i*30)).take 30=z8j none none none l[i]:=by
 have e1:=z3ga (enc:=z8j none none none) (P:=z3h.ok) (w:=30) (fun a ha=>z1Ia ha) l i h
 rw[show z6h l=l.flatMap (z8j none none none) from rfl,e1,List.drop_eq_getElem_cons hi,List.flatMap_cons,List.take_left' (z1Ia (h _ (List.getElem_mem hi)))]
theorem z94b {l:List z3h} (h:okL l):z59a l.length (z6h l)=l:=z8Yb (enc:=z8j none none none) (P:=z3h.ok) (fun a ha=>z1Ia ha) (fun a ha=>z8nb ha.2.2.2.2.2.1 (z4s ha.2.2.2.2.2.2.1)) l h
def wE (x:z3h):Nat:=1+x.made.length+x.gone.length+x.cmd.list.length+x.cmd.data.length/100
def z4wa (l:List z3h):Nat:=(l.map wE).sum
def z4Wb (l:List z3h):Bool:=decide (z4wa l≤200)
theorem z0dc {l:List z3h} {i:Nat} (h:i<l.length):z4wa (l.take (i+1))=z4wa (l.take i)+wE l[i]:=by
 rw[z4wa,z4wa,List.take_succ_eq_append_getElem h,List.map_append,List.sum_append];simp
theorem z9Nc (l:List z3h) (i:Nat):z4wa (l.take i)≤z4wa l:=by
 conv=>rhs;rw[←List.take_append_drop i l]
 rw[z4wa,z4wa,List.map_append,List.sum_append];omega
theorem z44d {l:List z3h} {x:z3h} (h:x∈l):wE x≤z4wa l:=by
 induction l with
 |nil=>cases h
 |cons a l ih=>
  have e:z4wa (a::l)=wE a+z4wa l:=by simp[z4wa]
  rw[e]
  rcases List.mem_cons.1 h with rfl|h
  ·omega
  ·have:=ih h;omega
theorem z3Kb (l:List z3h):l.length≤z4wa l:=by
 induction l with
 |nil=>simp
 |cons a l ih=>
  have e:z4wa (a::l)=wE a+z4wa l:=by simp[z4wa]
  have:1≤wE a:=by unfold wE;omega
  rw[e,List.length_cons];omega
def z71a:z5a:=⟨fun ds=>∃(nl:Option Bool) (l:List z3h),okL l∧z4wa l≤1000000000∧ds=[z5n nl l],fun ds=>bo (z4Wb (z59a (gNn (nth ds 0)) (gCs (nth ds 0))))⟩
theorem z3Jb {nl:Option Bool} {l:List z3h} (h:okL l) (hs:z4wa l≤1000000000):z71a.pre [z5n nl l]=True:=eq_true ⟨nl,l,h,hs,rfl⟩
theorem z5Ya {nl:Option Bool} {l:List z3h} (h:okL l):z71a.post [z5n nl l]=bo (z4Wb l):=by
 show bo (z4Wb (z59a l.length (z6h l)))=_
 rw[z94b h]
theorem z57a {l:List z3h} (h:okL l) (hf:z4Wb l=true):z13a l∧l.length≤200:=by
 have hs:z4wa l≤200:=by simpa[z4Wb] using hf
 refine⟨fun x hx=> ?_,Nat.le_trans (z3Kb l) hs⟩
 have h1:=z44d hx
 unfold wE at h1
 exact⟨h x hx,⟨(h x hx).2.2.2.2.1,by omega,by omega⟩,by omega,by omega⟩
set_option maxHeartbeats 8000000 in
theorem z5Qc (E:Env):∀ds,z71a.pre ds→ds.length=z3i.n∧awp E z3i.body (z0m z3i.res (z71a.post ds)) (z3b z3i.wr ds):=by
 rintro _ ⟨nl,l,h,hs,rfl⟩
 rw[z5Ya h]
 unfold z5n
 have hlen:=z0Sb h
 have hl:=z3Kb l
 generalize hQf:z0m z3i.res (bo (z4Wb l))=Qf
 simp(maxSteps:=1000000) (disch:=first|omega|(simp;done)|(simp;omega)) [z9a,z1a,z0a,z3i]
 refine z4a fun Q1 hQ1=> ?_
 refine z4e (fun i:Nat=>⟨[(0,.sl .plain nl l.length (z6h l))],[(3,i64 (z4wa (l.take i):Nat)),(6,.sl .plain nl l.length (z6h l)),(7,i64 l.length),(8,i64 i)],[]⟩) (fun i=>l.length-i) (fun i=>i≤l.length) 0 (by simp[z4wa]) (by simp) fun i hi=> ?_
 refine z4a fun Q2 hQ2=> ?_
 by_cases c:i<l.length
 ·have hx:=h _ (List.getElem_mem c)
  have hat:=z4Zb h c
  have hsum:=z0dc c
  have hle:=z9Nc l (i+1)
  have hxl:=z1Ia hx
  generalize hX:l[i]=x at*
  have hd:=hx.2.2.2.2.2.1
  have a7:hdA ((z8j none none none x).drop 11)= .sl .plain none x.cmd.list.length (z9p x.cmd.list):=rfl
  have a6:hdA ((z8j none none none x).drop 10)=st x.cmd.data:=rfl
  have a28:hdA ((z8j none none none x).drop 28)= .sl .plain none x.made.length (z9n x.made):=z55a hd
  have a29:hdA ((z8j none none none x).drop 29)= .sl .plain none x.gone.length (z9p x.gone):=z76a hd
  have hle2:30≤l.length*30-i*30:=by omega
  have hle3:i*30≤l.length*30:=by omega
  have hw:wE x=1+x.made.length+x.gone.length+x.cmd.list.length+x.cmd.data.length/100:=rfl
  have htk:List.take 30 (z8j none none none x)=z8j none none none x:=List.take_of_length_le (by omega)
  generalize hS:z4wa (l.take i)=S at*
  have sp:splice (i64 0::i64 0::i64 0::i64 0::i64 0::i64 0::i64 0::i64 0::i64 0::i64 0::st []:: .sl .plain none 0 []::(bys (z9c 16)++[.sl (.own 24) none 0 [],.sl (.own 1) none 0 []])) 0 (z8j none none none x)=z8j none none none x:=z72b rfl hxl
  simp(maxSteps:=1000000) (disch:=first|omega|(simp;done)|(simp;omega)) [z9a,z1a,z0a,z1z,z7Q,kT,kF,dT,dF,c,hlen,hat,hxl,htk,a6,a7,a28,a29,hle2,hle3,sp,hQ2]
  exact⟨i+1,by omega,by omega,by rw[hsum,hw];omega,by omega⟩
 ·obtain rfl:i=l.length:=by omega
  have hd:decide (((z4wa l:Nat):Int)≤200)=decide (z4wa l≤200):=decide_eq_decide.2 (by omega)
  simp(maxSteps:=1000000) (disch:=first|omega|(simp;done)|(simp;omega)) [z9a,z1a,z0a,z1z,z9O,z3i,kT,kF,dT,dF,hQ2,hQ1,List.take_length,←hQf,z4Wb,hd]
end Go.Abs
end
