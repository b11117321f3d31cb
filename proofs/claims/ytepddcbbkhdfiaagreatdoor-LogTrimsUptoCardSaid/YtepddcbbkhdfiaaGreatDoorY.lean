/- Lemmas: an abstract interpreter, and what the functions compute. -/
import Derived.Test.YtepddcbbkhdfiaaGreatDoorX
import Derived.Test.YtepddcbbkhdfiaaGreatDoorH
import Derived.Test.YtepddcbbkhdfiaaGreatDoorG
import Derived.Test.YtepddcbbkhdfiaaGreatDoorI
import Derived.Test.YtepddcbbkhdfiaaGreatDoorF
import Derived.Deep.DeepHandedRow
import Derived.Lib.LaidTab
import Derived.ChangeBears
import Derived.Carry
import Derived.OpenShut
import Derived.ChangeSame
import Derived.Test.YtepddcbbkhdfiaaGreatDoorW
set_option linter.unusedSimpArgs false
set_option linter.unusedVariables false
set_option linter.unusedSectionVars false
section
namespace Go.Abs
theorem z6xd (E:Env):∀ds,z34b.pre ds→ds.length=z7xa.n∧awp E z7xa.body (z4xa z7xa.res (z34b.post ds)) (z4H z7xa.wr ds):=by
 rintro _ ⟨x,n,h0,h1,rfl⟩
 simp(maxSteps:=1000000) (disch:=first|omega|(simp;done)|(simp;omega)) [z6G,z8pa,z7pa,z7xa]
 refine⟨by omega,by omega,?_⟩
 rw[z0w,show((32:Int)-n).toNat=32-n.toNat by omega]
theorem z58c (E:Env) (h15:E.G 15=z1jc):∀ds,z8Lb.pre ds→ds.length=z8wa.n∧awp E z8wa.body (z4xa z8wa.res (z8Lb.post ds)) (z4H z8wa.wr ds):=by
 rintro _ ⟨nl,b,hb,rfl⟩
 have hs:=z4o b
 simp(maxSteps:=1000000) (disch:=first|omega|(simp;done)|(simp;omega)) [z6G,z8pa,z7pa,z8wa,h15,z2cd,z5xa]
 refine z1g fun Q0 hQ0=> ?_
 refine z1v (fun i:Nat=>⟨[(0,.sl .plain nl b.length (bys b))],[(2,.bp 2 0),(3,.bp 3 0),(4,.bp 4 0),(5,i64 i)],
  [(2,some (bys (z5j 16))),(3,some (bys (sha b))),(4,some (bys ((sha b).take i++z5j (16-i))))]⟩) (fun i=>16-i) (· ≤16) 0 rfl (by simp) fun i hi=> ?_
 refine z1g fun Q1 hQ1=> ?_
 simp(maxSteps:=1000000) (disch:=first|omega|(simp;done)|(simp;omega)) [z6G,z8pa,z7pa]
 rw[z4h]
 refine⟨by simp,fun h=> ?_,fun h=> ?_⟩<;>simp at h
 ·have hi':i<(sha b).length:=by omega
  have hz:(z5j (16-i)).set 0 (at8 (sha b) i)=at8 (sha b) i::z5j (16-(i+1)):=by
   rw[z83b (by omega),show 16-(i+1)=16-1-i by omega];rfl
  simp(maxSteps:=1000000) (disch:=first|omega|(simp;done)|(simp;omega)) [z6G,z8pa,z7pa,z8hc,z7Fb,List.set_append_right]
  repeat' (first|omega|apply And.intro)
  simp only[hs,Nat.min_eq_left (show i≤32 by omega),Nat.sub_self,hz,hQ1]
  simp
  refine⟨i+1,by omega,by omega,by omega,?_⟩
  rw[z57d hi']
  simp
 ·have e:i=16:=by omega
  subst e
  simp[hQ1,hQ0,hs,z5j,z5xa,List.take_of_length_le]
theorem z80d (E:Env) (h21:E.G 21=z4Lb) (h28:E.G 28=z8Lb):∀ds,z22c.pre ds→ds.length=z1Aa.n∧awp E z1Aa.body (z4xa z1Aa.res (z22c.post ds)) (z4H z1Aa.wr ds):=by
 rintro _ ⟨tag,nl,l,hl,rfl⟩
 have h1:=z3La (l:=l) (by omega)
 have h2:(z4ga tag l).length<1099511000000:=by simp only[z4ga,List.length_cons];omega
 simp(maxSteps:=1000000) (disch:=first|omega|(simp;done)|(simp;omega)) [z6G,z8pa,z7pa,z1Aa,h21,h28,z0Sc,z3Ic,z5xa,z0f,List.take_take]
theorem z1Ic (E:Env) (h30:E.G 30=z0ic):∀ds,z2pb.pre ds→ds.length=z1ua.n∧awp E z1ua.body (z4xa z1ua.res (z2pb.post ds)) (z4H z1ua.wr ds):=by
 rintro _ ⟨s,hs,rfl⟩
 have hl:=z4Da (n:=s.length) ⟨by omega,by omega⟩
 simp(maxSteps:=1000000) (disch:=first|omega|(simp;done)|(simp;omega)) [z6G,z8pa,z7pa,z1ua,h30,z88c,z2X]
 omega
theorem z9ad (E:Env) (h29:E.G 29=z2pb):∀ds,z4Lb.pre ds→ds.length=z6wa.n∧awp E z6wa.body (z4xa z6wa.res (z4Lb.post ds)) (z4H z6wa.wr ds):=by
 rintro _ ⟨tag,nl,l,hl,rfl⟩
 have hn:=z1Ab l
 simp(maxSteps:=1000000) (disch:=first|omega|(simp;done)|(simp;omega)) [z6G,z8pa,z7pa,z6wa]
 refine z1g fun Q0 hQ0=> ?_
 refine z1v (fun i:Nat=>⟨[(0,i64 tag),(1,.sl .plain nl l.length (sts l))],[(5,.sl (.own 1) (some false) (z4ga tag (l.take i)).length (bys (z4ga tag (l.take i)))),(6,i64 i)],[]⟩) (fun i=>l.length-i) (· ≤l.length) 0 rfl (by simp) fun i hi=> ?_
 refine z1g fun Q1 hQ1=> ?_
 simp(maxSteps:=1000000) (disch:=first|omega|(simp;done)|(simp;omega)) [z6G,z8pa,z7pa]
 rw[z4h]
 refine⟨by simp,fun h=> ?_,fun h=> ?_⟩<;>simp at h
 ·have hi':i<l.length:=by omega
  have h3:=z3Ub hi'
  have h5:z4ga tag (l.take (i+1))=z4ga tag (l.take i)++z2X (atS l i):=by rw[z4ga,z4ga,z8Da _ _ [] hi'];rfl
  have h6:(z4ga tag (l.take i)).length+(z2X (atS l i)).length≤1099511627776:=by
   rw[←List.length_append,←h5,z4ga,List.length_cons]
   have:=z3La (l:=l.take (i+1)) (by have:=z0bc l (i+1);omega)
   have:=z0bc l (i+1)
   omega
  simp(maxSteps:=1000000) (disch:=first|omega|(simp;done)|(simp;omega)) [z6G,z8pa,z7pa,z1id,h29,z4Ec]
  refine⟨hi',by omega,h6,?_⟩
  simp[hQ1]
  refine⟨i+1,by omega,by omega,⟨?_,?_⟩,by omega⟩<;>rw[h5]
  simp
 ·have e:i=l.length:=by omega
  subst e
  simp[hQ1,hQ0]
end Go.Abs
end

section
namespace Go.Abs
set_option maxRecDepth 100000
def z7Xa:z1c:=
 Yq (.block 3 (YR [2,3,4,5,6,7,8,9] [.norm [2,3,6,7]] [YA 34 8 1 7 7,Yl 35 7 34,YA 36 8 1 7 4,Yl 37 7 36,Yo 38 (.call 26 [.s 37,.c (i64 6)] []),YA 39 8 1 7 4,Yl 40 7 39,Yo 41 (.call 26 [.s 40,.c (i64 11)] []),Yb 42 .xor 38 41,YA 43 8 1 7 4,Yl 44 7 43,Yo 45 (.call 26 [.s 44,.c (i64 25)] []),Yb 46 .xor 42 45,Yb 47 .add 35 46,YA 48 8 1 7 4,Yl 49 7 48,YA 50 8 1 7 5,Yl 51 7 50,Yb 52 .and 49 51,YA 53 8 1 7 4,Yl 54 7 53,Yo 55 (.bin .xor (.s 54) (.c (u32 4294967295))),YA 56 8 1 7 6,Yl 57 7 56,Yb 58 .and 55 57,Yb 59 .xor 52 58,Yb 60 .add 47 59,Ym 61 8,Yo 62 (.idxArr 64 1 (.g 1) (.s 61)),Yj 63 62,Yb 64 .add 60 63,Ym 65 8,Ya 66 64 1 6 65,Yl 67 6 66,Yb 68 .add 64 67,Ym 9 68] (YR [2,3,4,5,6,7,8,9,10] [.norm [2,3,6,7]] [YA 69 8 1 7 0,Yl 70 7 69,Yo 71 (.call 26 [.s 70,.c (i64 2)] []),YA 72 8 1 7 0,Yl 73 7 72,Yo 74 (.call 26 [.s 73,.c (i64 13)] []),Yb 75 .xor 71 74,YA 76 8 1 7 0,Yl 77 7 76,Yo 78 (.call 26 [.s 77,.c (i64 22)] []),Yb 79 .xor 75 78,YA 80 8 1 7 0,Yl 81 7 80,YA 82 8 1 7 1,Yl 83 7 82,Yb 84 .and 81 83,YA 85 8 1 7 0,Yl 86 7 85,YA 87 8 1 7 2,Yl 88 7 87,Yb 89 .and 86 88,Yb 90 .xor 84 89,YA 91 8 1 7 1,Yl 92 7 91,YA 93 8 1 7 2,Yl 94 7 93,Yb 95 .and 92 94,Yb 96 .xor 90 95,Yb 97 .add 79 96,Ym 10 97] (.region [2,3,4,5,6,7,8] [.norm [2,3,6,7]] [Ym 98 9,Ym 99 10,Yb 100 .add 98 99,YA 101 8 1 7 0,Yl 102 7 101,YA 103 8 1 7 1,Yl 104 7 103,YA 105 8 1 7 2,Yl 106 7 105,YA 107 8 1 7 3,Yl 108 7 107,Ym 109 9,Yb 110 .add 108 109,YA 111 8 1 7 4,Yl 112 7 111,YA 113 8 1 7 5,Yl 114 7 113,YA 115 8 1 7 6,Yl 116 7 115,Yo 117 (.build [u32 0,u32 0,u32 0,u32 0,u32 0,u32 0,u32 0,u32 0] [(0,1,.s 100),(1,1,.s 102),(2,1,.s 104),(3,1,.s 106),(4,1,.s 110),(5,1,.s 112),(6,1,.s 114),(7,1,.s 116)]),Ys 8 7 7 117])))) (Yu [2,3,4,5,6,7,8] [Ym 32 8,YB 33 .add 32 1,Ym 8 33])
def z9Xa:z1c:=
 Yq (Yr [2,3,4,5,6,7,8,31] [Ym 30 8,YB 31 .lss 30 64] (Yd 31 (Yy [2,3,4,5,6,7,8]) (.ghost (.keep [2,3,4,5,7]) (.exit 2)))) z7Xa
def z8Wa:z1c:=
 Yq (.block 5 (.region [2,3,4,5,7,11] [.norm [2,3,6,7]] [Ym 122 11,Ym 123 11,Ya 124 8 1 3 123,Yl 125 3 124,Ym 126 11,Ya 127 8 1 7 126,Yl 128 7 127,Yb 129 .add 125 128,Ya 130 8 1 3 122,YS 3 130 129])) (Yu [2,3,4,5,7,11] [Ym 120 11,YB 121 .add 120 1,Ym 11 121])
def z4Ya:z1c:=
 Yq (Yr [2,3,4,5,7,11,119] [Ym 118 11,YB 119 .lss 118 8] (Yd 119 (Yy [2,3,4,5,7,11]) (.ghost (.keep [2,3,4,5]) (.exit 4)))) z8Wa
def z3Ya:z1c:=
 Yr [2,3,4,5,7,11] [Yc 11 0] (.block 4 (.loop z4Ya))
def z8Xa:z1c:=
 Yq (.block 1 (YR [2,3,4,5,6] [.norm [2,3,6]] [Ym 23 4,Ym 24 5,Ym 25 5,YB 26 .add 25 64,Yo 27 (.slSl 1 (.s 23) (some (.s 24)) (some (.s 26)) none),Yk 28 25 27,Yo 6 (.alloc 6 (z7g (z9ua 64))),Ys 64 6 6 28] (YR [2,3,4,5,6,7] [.norm [2,3,6,7]] [YL 29 8 3 3,Yo 7 (.alloc 7 (z7g (z9ua 8))),Ys 8 7 7 29] (Yq (Yr [2,3,4,5,6,7,8] [Yc 8 0] (.block 2 (.loop z9Xa))) z3Ya)))) (.region [2,3,4,5] [.drop [6,7]] [Ym 21 5,YB 22 .add 21 64,Ym 5 22])
def z0Ya:z1c:=
 Yq (Yr [2,3,4,5,20] [Ym 17 5,Ym 18 4,Yn 19 18,Yb 20 .lss 17 19] (Yd 20 (Yy [2,3,4,5]) (YY [2,3]))) z8Xa
def z5Wa:z1c:=
 Yq (.block 7 (.region [2,3,12,13] [.norm [2,3,6,7,12]] [Ym 135 13,Ym 136 13,YB 137 .quo 136 4,Ya 138 8 1 3 137,Yl 139 3 138,Ym 140 13,YB 141 .rem 140 4,Yo 142 (.bin .mul (.c (i64 8)) (.s 141)),Yo 143 (.bin .sub (.c (i64 24)) (.s 142)),Yb 144 .shr 139 143,Yo 145 (.toInt .u8 (.s 144)),Ya 146 32 1 12 135,YS 12 146 145])) (Yu [2,3,12,13] [Ym 133 13,YB 134 .add 133 1,Ym 13 134])
def z4Wa:z1c:=
 Yq (Yr [2,3,12,13,132] [Ym 131 13,YB 132 .lss 131 32] (Yd 132 (Yy [2,3,12,13]) (.ghost (.keep [2,12]) (.exit 6)))) z5Wa
def z0Xa:z1c:=
 YR [2] [.norm [2,3,6,7,12]] [YL 147 32 12 12,Ys 32 2 2 147] .ret
def z4Xa:z1c:=
 YR [2,3,12] [.norm [2,3,6,7,12]] [Yz 12 12 32] (Yq (Yr [2,3,12,13] [Yc 13 0] (.block 6 (.loop z4Wa))) z0Xa)
def z6ya:z1ka:=
 {n:=1,wr:=[],res:=[.cell 2 (some 32) 2],body:=YR [2] [.norm [2]] [Yz 2 2 32] (YR [2,3] [.norm [2,3]] [Yo 14 (.build [u32 0,u32 0,u32 0,u32 0,u32 0,u32 0,u32 0,u32 0] [(0,1,.c (u32 1779033703)),(1,1,.c (u32 3144134277)),(2,1,.c (u32 1013904242)),(3,1,.c (u32 2773480762)),(4,1,.c (u32 1359893119)),(5,1,.c (u32 2600822924)),(6,1,.c (u32 528734635)),(7,1,.c (u32 1541459225))]),Yo 3 (.alloc 3 (z7g (z9ua 8))),Ys 8 3 3 14] (Yr [2,3,4] [Ym 15 0,Yk 16 24 15,YM 4 16] (Yq (Yr [2,3,4,5] [Yc 5 0] (.block 0 (.loop z0Ya))) z4Xa)))}
def z5Xa:z1c:=
 .block 1 (Yr [3,4] [YM 16 4,Ym 17 3,YB 18 .rem 17 256,Yo 19 (.toInt .u8 (.s 18)),Yo 20 (.buildSl 1 1 [u8 0] [(0,1,.s 19)]),Yo 21 (.append 1 1 false none none 16 (.s 20)),YM 4 21] (Yu [3,4] [Ym 22 3,YB 23 .quo 22 256,Ym 3 23]))
def z7Wa:z1c:=
 Yq (Yr [3,4,15] [Ym 14 3,YB 15 .gtr 14 0] (Yd 15 (Yy [3,4]) (YY [4]))) z5Xa
def z6Wa:z1c:=
 Yu [4,6,7] [YM 54 6,Ym 55 8,Yo 56 (.buildSl 1 1 [u8 0] [(0,1,.s 55)]),Yo 57 (.append 1 1 false none none 54 (.s 56)),YM 6 57]
def z7Ya:z1c:=
 Yq (.block 3 (Yr [4,6,7,8] [Ym 46 4,Ym 47 7,Yi 48 1 46 47,Yj 49 48,Ym 8 49] (Yq (Yr [4,6,7,8,51] [Ym 50 0,YB 51 .lss 50 0] (Yd 51 (Yu [4,6,7,8] [Ym 52 8,Yo 53 (.bin .sub (.c (u8 255)) (.s 52)),Ym 8 53]) (Yy [4,6,7,8]))) z6Wa))) (Yu [4,6,7] [Ym 44 7,YB 45 .sub 44 1,Ym 7 45])
def z3Za:z1c:=
 Yq (Yr [4,6,7,43] [Ym 42 7,YB 43 .geq 42 0] (Yd 43 (Yy [4,6,7]) (.ghost (.keep [6]) (.exit 2)))) z7Ya
def z3Xa:z1c:=
 Yr [2] [YM 58 6,YM 2 58] .ret
def z2Za:z1c:=
 Yq (Yr [4,6,7] [Ym 40 5,YB 41 .sub 40 1,Ym 7 41] (.block 2 (.loop z3Za))) z3Xa
def z1Ya:z1c:=
 Yr [4,5] [Ym 24 4,Yn 25 24,Ym 5 25] (Yr [4,5,6] [Yo 6 (.mv true (.c (.sl (.own 1) none 0 [])))] (Yq (Yr [4,5,6,27] [Ym 26 0,YB 27 .geq 26 0] (Yd 27 (Yu [4,5,6] [YM 28 6,Ym 29 5,Yo 30 (.bin .add (.c (i64 128)) (.s 29)),Yo 31 (.toInt .u8 (.s 30)),Yo 32 (.buildSl 1 1 [u8 0] [(0,1,.s 31)]),Yo 33 (.append 1 1 false none none 28 (.s 32)),YM 6 33]) (Yu [4,5,6] [YM 34 6,Ym 35 5,Yo 36 (.bin .sub (.c (i64 127)) (.s 35)),Yo 37 (.toInt .u8 (.s 36)),Yo 38 (.buildSl 1 1 [u8 0] [(0,1,.s 37)]),Yo 39 (.append 1 1 false none none 34 (.s 38)),YM 6 39]))) z2Za))
def z6Xa:z1c:=
 Yr [3,4] [Yo 4 (.mv true (.c (.sl (.own 1) none 0 [])))] (Yq (.block 0 (.loop z7Wa)) z1Ya)
def z4wa:z1ka:=
 {n:=1,wr:=[],res:=[.t 2],body:=Yr [] [Yo 2 (.mv true (.c (.sl (.own 1) none 0 [])))] (Yr [3] [Ym 9 0,Ym 3 9] (Yq (Yr [3,11] [Ym 10 0,YB 11 .lss 10 0] (Yd 11 (Yu [3] [Ym 12 0,Yo 13 (.bin .sub (.c (i64 (-1))) (.s 12)),Ym 3 13]) (Yy [3]))) z6Xa))}
end Go.Abs
end

section
namespace Go.Abs
theorem z79c {l:List UInt8} {j:Nat} (h:j<l.length):l.reverse.take (j+1)=l.reverse.take j++[at8 l (l.length-1-j)]:=by
 rw[List.take_succ_eq_append_getElem (by simp;omega),at8,List.getD,List.getElem?_eq_getElem (by omega)]
 simp[List.getElem_reverse]
set_option maxHeartbeats 4000000 in
theorem z0ud (E:Env):∀ds,z0ic.pre ds→ds.length=z4wa.n∧awp E z4wa.body (z4xa z4wa.res (z0ic.post ds)) (z4H z4wa.wr ds):=by
 rintro _ ⟨n,⟨hn0,hn1⟩,rfl⟩
 simp(maxSteps:=1000000) (disch:=first|omega|(simp;done)|(simp;omega)) [z6G,z8pa,z7pa,z4wa]
 refine z1g fun Q0 hQ0=> ?_
 have key:Q0 .normal ⟨[(0,i64 n)],[(3,i64 (mag n:Nat))],[]⟩:=by
  have hmag:(mag n:Int)=if n<0 then-1-n else n:=by unfold mag;split<;>omega
  have hm63:mag n<9223372036854775808:=by split at hmag<;>omega
  simp(maxSteps:=1000000) (disch:=first|omega|(simp;done)|(simp;omega)) [z6G,z8pa,z7pa,hQ0,z6Xa]
  refine z1g fun Q1 hQ1=> ?_
  refine z1v (fun p:Nat×List UInt8=>⟨[(0,i64 n)],[(3,i64 p.1),(4,.sl (.own 1) none p.2.length (bys p.2))],[]⟩) (fun p=>p.1) (fun p=>p.2++z2k p.1=z2k (mag n)∧p.1<9223372036854775808∧p.2.length≤8) (mag n,[]) rfl (by simp;omega) fun p hp=> ?_
  obtain⟨m,l⟩:=p
  obtain⟨h1,h2,h3⟩:=hp
  simp only at h1 h2 h3
  refine z1g fun Q2 hQ2=> ?_
  simp(maxSteps:=1000000) (disch:=first|omega|(simp;done)|(simp;omega)) [z6G,z8pa,z7pa,z7Wa]
  rw[z4h]
  refine⟨by simp,fun h=> ?_,fun h=> ?_⟩<;>simp at h
  ·have hl7:l.length≤7:=by
    have:=(z8h 8 (mag n)).2 (by omega)
    rw[←h1,z6h (by omega)] at this
    simp at this
    omega
   have e1:(m:Int).tmod 256=((m% 256:Nat):Int):=by rw[Int.tmod_eq_emod_of_nonneg (by omega)];rfl
   have e2:(m:Int).tdiv 256=((m/256:Nat):Int):=by rw[Int.tdiv_eq_ediv_of_nonneg (by omega)];rfl
   have e3:UInt8.ofInt ((m:Int)% 256)=UInt8.ofNat m:=by
    apply UInt8.toNat_inj.1
    rw[z5t,UInt8.toNat_ofNat']
    omega
   simp(maxSteps:=1000000) (disch:=first|omega|(simp;done)|(simp;omega)) [z6G,z8pa,z7pa,z5Xa,e1,e2,e3]
   refine⟨by omega,?_⟩
   simp[hQ2]
   refine⟨m/256,by omega,l++[UInt8.ofNat m],⟨?_,by omega,by simp;omega⟩,by omega,by simp,by simp⟩
   rw[List.append_assoc,List.singleton_append,←z6h (by omega),h1]
  ·have e:m=0:=by omega
   subst e
   rw[z0g,List.append_nil] at h1
   subst h1
   generalize hD:z2k (mag n)=D at*
   simp(maxSteps:=1000000) (disch:=first|omega|(simp;done)|(simp;omega)) [z6G,z8pa,z7pa,hQ2,hQ1,z1Ya]
   refine z1g fun Q3 hQ3=> ?_
   have key2:∀c,c=flp n (UInt8.ofNat (128+D.length))→Q3 .normal ⟨[(0,i64 n)],[(4,.sl (.own 1) none D.length (bys D)),(5,i64 D.length),(6,.sl (.own 1) none 1 (bys [c]))],[]⟩:=by
    intro c hc
    have hfin:z3r n=c::D.reverse.map (flp n):=by rw[z3r,hD,hc]
    clear hc
    simp(maxSteps:=1000000) (disch:=first|omega|(simp;done)|(simp;omega)) [z6G,z8pa,z7pa,hQ3,z2Za]
    refine z1g fun Q4 hQ4=> ?_
    refine z1v (fun j:Nat=>⟨[(0,i64 n)],[(4,.sl (.own 1) none D.length (bys D)),(6,.sl (.own 1) none (1+j) (bys (c::(D.map (flp n)).reverse.take j))),(7,i64 ((D.length:Int)-1-j))],[]⟩)
     (fun j=>D.length-j) (· ≤D.length) 0 (by simp) (by simp) fun j hj=> ?_
    refine z1g fun Q5 hQ5=> ?_
    simp(maxSteps:=1000000) (disch:=first|omega|(simp;done)|(simp;omega)) [z6G,z8pa,z7pa,z3Za]
    rw[z4h]
    refine⟨by simp,fun h5=> ?_,fun h5=> ?_⟩<;>simp at h5
    ·have hj':j<D.length:=by omega
     have e1:((D.length:Int)-1-(j:Int)).toNat=D.length-1-j:=by omega
     simp(maxSteps:=1000000) (disch:=first|omega|(simp;done)|(simp;omega)) [z6G,z8pa,z7pa,z7Ya,e1,z8hc]
     refine⟨by omega,by omega,?_⟩
     refine z1g fun Q6 hQ6=> ?_
     have key3:∀d,d=flp n (at8 D (D.length-1-j))→Q6 .normal ⟨[(0,i64 n)],[(4,.sl (.own 1) none D.length (bys D)),(6,.sl (.own 1) none (1+j) (bys (c::(D.map (flp n)).reverse.take j))),(7,i64 ((D.length:Int)-1-j)),(8,u8 d)],[]⟩:=by
      intro d hd
      subst hd
      simp(maxSteps:=1000000) (disch:=first|omega|(simp;done)|(simp;omega)) [z6G,z8pa,z7pa,hQ6,hQ5,z6Wa]
      refine⟨by omega,j+1,by omega,by omega,⟨by omega,?_⟩,by omega⟩
      rw[z79c (by simpa using hj')]
      simp[at8,List.getD,List.getElem?_eq_getElem (show D.length-1-j<D.length by omega)]
     rw[z4h]
     refine⟨by simp,fun h7=> ?_,fun h7=> ?_⟩<;>simp at h7
     ·simp(maxSteps:=1000000) (disch:=first|omega|(simp;done)|(simp;omega)) [z6G,z8pa,z7pa]
      exact key3 _ (by rw[flp,if_pos h7])
     ·simp
      exact key3 _ (by rw[flp,if_neg (by omega)])
    ·have e:j=D.length:=by omega
     subst e
     simp[hQ5,hQ4,z3Xa,hfin,List.take_of_length_le]
     omega
   have hc8:(UInt8.ofNat (128+D.length)).toNat=128+D.length:=by rw[UInt8.toNat_ofNat'];omega
   rw[z4h]
   refine⟨by simp,fun h6=> ?_,fun h6=> ?_⟩<;>simp at h6
   ·simp(maxSteps:=1000000) (disch:=first|omega|(simp;done)|(simp;omega)) [z6G,z8pa,z7pa]
    refine key2 _ ?_
    rw[flp,if_neg (by omega)]
    apply UInt8.toNat_inj.1
    rw[hc8,UInt8.toNat_add,z5t,z5t]
    omega
   ·simp(maxSteps:=1000000) (disch:=first|omega|(simp;done)|(simp;omega)) [z6G,z8pa,z7pa]
    refine key2 _ ?_
    rw[flp,if_pos (by omega)]
    apply UInt8.toNat_inj.1
    rw[UInt8.toNat_sub,hc8,z5t]
    have:(255:UInt8).toNat=255:=rfl
    omega
 have hmag:(mag n:Int)=if n<0 then-1-n else n:=by unfold mag;split<;>omega
 rw[z4h]
 refine⟨by simp,fun h=> ?_,fun h=> ?_⟩<;>simp at h
 ·simp(maxSteps:=1000000) (disch:=first|omega|(simp;done)|(simp;omega)) [z6G,z8pa,z7pa]
  rw[if_pos h] at hmag
  rw[hmag] at key
  exact key
 ·simp
  rw[if_neg (by omega)] at hmag
  rw[hmag] at key
  exact key
end Go.Abs
end

section
namespace Go.Abs
theorem z45c (x:UInt32):x^^^4294967295= ~~~x:=by
 apply UInt32.toBitVec_inj.1
 exact BitVec.xor_allOnes
theorem z75c {l:List UInt32} (h:1<l.length):hdA (z7g l).tail=u32 (z8i l 1):=by
 rw[←List.drop_one,z90,z93a h]
def z8jd (s v:List UInt32):Nat→List UInt32
 |0=>s
 |t+1=>(z8jd s v t).set t (z8i (z8jd s v t) t+z8i v t)
theorem z5tc (s v:List UInt32):∀t,(z8jd s v t).length=s.length
 |0=>rfl
 |t+1=>by simp[z8jd,z5tc s v t]
theorem z7Md (s v:H8):z8jd s.l v.l 8=(s.add v).l:=rfl
set_option maxHeartbeats 4000000 in
theorem z4od (E:Env) (hT1:E.T 1=z7g kc) (h24:E.G 24=z7ob) (h25:E.G 25=z96a) (h26:E.G 26=z34b):∀ds,z1jc.pre ds→ds.length=z6ya.n∧awp E z6ya.body (z4xa z6ya.res (z1jc.post ds)) (z4H z6ya.wr ds):=by
 rintro _ ⟨nl,b,hb,rfl⟩
 obtain⟨hp1,hp2,hp3⟩:=z1Jb (b:=b) (by omega)
 generalize hm:z9Ya b=m at*
 have hkc:kc.length=64:=rfl
 simp(maxSteps:=1000000) (disch:=first|omega|(simp;done)|(simp;omega)) [z6G,z8pa,z7pa,z6ya,h24,z8Ec,hm,z0qa]
 refine z1g fun Q0 hQ0=> ?_
 refine z1v (fun k:Nat=>⟨[(0,.sl .plain nl b.length (bys b))],[(2,.bp 2 0),(3,.bp 3 0),(4,.sl (.own 1) (some false) m.length (bys m)),(5,i64 (64*k:Nat))],
   [(2,some (bys (z5j 32))),(3,some (z7g (blk m iv k).l))]⟩)
  (fun k=>m.length-64*k) (fun k=>64*k≤m.length) 0 rfl (by simp) fun k hk=> ?_
 generalize hs:blk m iv k=s at*
 refine z1g fun Q1 hQ1=> ?_
 simp(maxSteps:=1000000) (disch:=first|omega|(simp;done)|(simp;omega)) [z6G,z8pa,z7pa,z0Ya]
 rw[z4h]
 refine⟨by simp,fun h=> ?_,fun h=> ?_⟩<;>simp at h
 ·have hb64:((m.drop (64*k)).take 64).length=64:=by simp;omega
  generalize hB:(m.drop (64*k)).take 64=B at*
  have hl:=z0Ca B 64
  have e1:(64*(k:Int)+64).toNat-64*k=64:=by omega
  have e2:(64*(k:Int)).toNat=64*k:=by omega
  simp(maxSteps:=1000000) (disch:=first|omega|(simp;done)|(simp;omega)) [z6G,z8pa,z7pa,z8Xa,h25,z2Mc,e1,e2,hB,hl,z0qa]
  refine⟨by omega,?_⟩
  refine z1g fun Q2 hQ2=> ?_
  have hs8:s.l.take 8=s.l:=rfl
  refine z1v (fun t:Nat=>⟨[(0,.sl .plain nl b.length (bys b))],[(2,.bp 2 0),(3,.bp 3 0),(4,.sl (.own 1) (some false) m.length (bys m)),(5,i64 (64*k:Nat)),(6,.bp 6 0),(7,.bp 7 0),(8,i64 t)],
    [(2,some (bys (z5j 32))),(3,some (z7g s.l)),(6,some (z7g (z4N B 64))),(7,some (z7g (z6Xb (z4N B 64) s t).l))]⟩)
   (fun t=>64-t) (· ≤64) 0 (by simp[hs8,z6Xb]) (by decide) fun t ht=> ?_
  refine z1g fun Q3 hQ3=> ?_
  simp(maxSteps:=1000000) (disch:=first|omega|(simp;done)|(simp;omega)) [z6G,z8pa,z7pa,z9Xa]
  rw[z4h]
  refine⟨by simp,fun h2=> ?_,fun h2=> ?_⟩<;>simp at h2
  ·generalize hr:z6Xb (z4N B 64) s t=r at*
   have hrl:r.l.length=8:=rfl
   simp(maxSteps:=2000000) (disch:=first|omega|(simp;done)|(simp;omega)) [z7Xa,z6G,hT1,z93a,z09c,z75c,z1Xb,h26,z7wc,hl,hkc,hrl,z0qa]
   have hn:[u32 (z8i r.l 7+(z0w (z8i r.l 4) 6^^^z0w (z8i r.l 4) 11^^^z0w (z8i r.l 4) 25)+(z8i r.l 4&&&z8i r.l 5^^^(z8i r.l 4^^^4294967295)&&&z8i r.l 6)+z8i kc t+z8i (z4N B 64) t+((z0w (z8i r.l 0) 2^^^z0w (z8i r.l 0) 13^^^z0w (z8i r.l 0) 22)+(z8i r.l 0&&&z8i r.l 1^^^z8i r.l 0&&&z8i r.l 2^^^z8i r.l 1&&&z8i r.l 2))),
     u32 (z8i r.l 0),u32 (z8i r.l 1),u32 (z8i r.l 2),u32 (z8i r.l 3+(z8i r.l 7+(z0w (z8i r.l 4) 6^^^z0w (z8i r.l 4) 11^^^z0w (z8i r.l 4) 25)+(z8i r.l 4&&&z8i r.l 5^^^(z8i r.l 4^^^4294967295)&&&z8i r.l 6)+z8i kc t+z8i (z4N B 64) t)),u32 (z8i r.l 4),u32 (z8i r.l 5),u32 (z8i r.l 6)]
     =z7g (z6Xb (z4N B 64) s (t+1)).l:=by
    rw[z45c,z6Xb,hr]
    rfl
   rw[hn,hQ3]
   repeat' (first|omega|apply And.intro)
   simp
   exact⟨t+1,by omega,by omega,by omega,rfl⟩
  ·have e:t=64:=by omega
   subst e
   generalize hr:z6Xb (z4N B 64) s 64=r at*
   simp(maxSteps:=1000000) (disch:=first|omega|(simp;done)|(simp;omega)) [z6G,z8pa,z7pa,hQ3,hQ2,z3Ya]
   refine z1g fun Q4 hQ4=> ?_
   clear hQ3 hQ2
   refine z1v (fun t:Nat=>⟨[(0,.sl .plain nl b.length (bys b))],[(2,.bp 2 0),(3,.bp 3 0),(4,.sl (.own 1) (some false) m.length (bys m)),(5,i64 (64*k:Nat)),(7,.bp 7 0),(11,i64 t)],
     [(2,some (bys (z5j 32))),(3,some (z7g (z8jd s.l r.l t))),(6,some (z7g (z4N B 64))),(7,some (z7g r.l))]⟩)
    (fun t=>8-t) (· ≤8) 0 (by simp[z8jd]) (by decide) fun t ht=> ?_
   have hal:=z5tc s.l r.l t
   have hsl:s.l.length=8:=rfl
   have hrl:r.l.length=8:=rfl
   refine z1g fun Q5 hQ5=> ?_
   simp(maxSteps:=1000000) (disch:=first|omega|(simp;done)|(simp;omega)) [z6G,z8pa,z7pa,z4Ya]
   rw[z4h]
   refine⟨by simp,fun h3=> ?_,fun h3=> ?_⟩<;>simp at h3
   ·simp(maxSteps:=1000000) (disch:=first|omega|(simp;done)|(simp;omega)) [z6G,z8pa,z7pa,z8Wa,z93a,z8La]
    repeat' (first|omega|apply And.intro)
    simp[hQ5]
    exact⟨t+1,by omega,by omega,by omega,rfl⟩
   ·have e:t=8:=by omega
    subst e
    simp(maxSteps:=1000000) (disch:=first|omega|(simp;done)|(simp;omega)) [z6G,z8pa,z7pa,hQ5,hQ4,hQ1]
    refine⟨k+1,by omega,by omega,by omega,?_⟩
    rw[z7Md,blk,hs,hB,z5ia,hr]
 ·have e:64*k=m.length:=by omega
  simp(maxSteps:=1000000) (disch:=first|omega|(simp;done)|(simp;omega)) [z6G,z8pa,z7pa,hQ1,hQ0,z4Xa]
  refine z1g fun Q2 hQ2=> ?_
  clear hQ1 hQ0
  refine z1v (fun i:Nat=>⟨[(0,.sl .plain nl b.length (bys b))],[(2,.bp 2 0),(3,.bp 3 0),(12,.bp 12 0),(13,i64 i)],
    [(2,some (bys (z5j 32))),(3,some (z7g s.l)),(6,none),(7,none),(12,some (bys (z6ba s i++z5j (32-i))))]⟩)
   (fun i=>32-i) (· ≤32) 0 rfl (by decide) fun i hi=> ?_
  have ho:=z1p s i
  refine z1g fun Q3 hQ3=> ?_
  simp(maxSteps:=1000000) (disch:=first|omega|(simp;done)|(simp;omega)) [z6G,z8pa,z7pa,z4Wa]
  rw[z4h]
  refine⟨by simp,fun h2=> ?_,fun h2=> ?_⟩<;>simp at h2
  ·have hi4:i/4<s.l.length:=by show i/4<8;omega
   have e4:(i:Int).tdiv 4=(i/4:Nat):=by rw[Int.tdiv_eq_ediv_of_nonneg (by omega)];rfl
   have e5:(i:Int).tmod 4=(i% 4:Nat):=by rw[Int.tmod_eq_emod_of_nonneg (by omega)];rfl
   have e4':((i:Int)/4).toNat=i/4:=by omega
   have e6:((24:Int)-8*((i:Int)% 4)).toNat=24-8*(i% 4):=by omega
   simp(maxSteps:=1000000) (disch:=first|omega|(simp;done)|(simp;omega)) [z6G,z8pa,z7pa,z5Wa,e4,e5,e6,e4',z93a,z7Fb,z4Pb,z83b (show i<32 by omega)]
   repeat' (first|omega|apply And.intro)
   simp[hQ3]
   refine⟨i+1,by omega,by omega,by omega,?_⟩
   rw[z6ba,show 32-(i+1)=31-i by omega]
   simp
  ·have e:i=32:=by omega
   subst e
   have hk2:m.length/64=k:=by omega
   have hf:sha b=z6ba s 32:=by
    rw[z7Hc hb,hm,hk2,hs]
   simp[hQ3,hQ2,z0Xa,z5xa,ho,hf,z5j,List.take_of_length_le]
end Go.Abs
end

section
namespace Go.Abs
theorem z2Jc (E:Env):∀ds,z7ob.pre ds→ds.length=z8va.n∧awp E z8va.body (z4xa z8va.res (z7ob.post ds)) (z4H z8va.wr ds):=by
 rintro _ ⟨nl,b,hb,rfl⟩
 have hn:(UInt64.ofNat b.length).toNat=b.length:=by rw[UInt64.toNat_ofNat'];omega
 have ho:UInt64.ofInt (b.length:Int)=UInt64.ofNat b.length:=by
  apply UInt64.toNat_inj.1
  rw[z3l,UInt64.toNat_ofNat']
  omega
 have hz:=z9kc b.length
 have hzo:=z7lc b.length
 simp(maxSteps:=1000000) (disch:=first|omega|(simp;done)|(simp;omega)) [z6G,z8pa,z7pa,z8va]
 refine⟨by omega,by omega,?_⟩
 refine z1g fun Q0 hQ0=> ?_
 refine z1v (fun k:Nat=>⟨[(0,.sl .plain nl b.length (bys b))],[(3,.sl (.own 1) (some false) (b.length+1+k) (bys (b++128::z5j k)))],[]⟩)
  (fun k=>z9Xb b.length-k) (· ≤z9Xb b.length) 0 rfl (by simp) fun k hk=> ?_
 refine z1g fun Q1 hQ1=> ?_
 simp(maxSteps:=1000000) (disch:=first|omega|(simp;done)|(simp;omega)) [z6G,z8pa,z7pa]
 have e64:((b.length:Int)+1+(k:Int)).tmod 64=((b.length+1+k)% 64:Nat):=by rw[Int.tmod_eq_emod_of_nonneg (by omega)];omega
 rw[z4h]
 refine⟨by simp,fun h=> ?_,fun h=> ?_⟩<;>simp at h
 ·have hk':k<z9Xb b.length:=by
   rcases Nat.lt_or_ge k (z9Xb b.length) with h3|h3
   ·exact h3
   ·have:k=z9Xb b.length:=by omega
    subst this
    omega
  simp(maxSteps:=1000000) (disch:=first|omega|(simp;done)|(simp;omega)) [z6G,z8pa,z7pa,hQ1]
  refine⟨by omega,k+1,by omega,by omega,by omega,?_⟩
  rw[←z5Xb]
 ·have e:k=z9Xb b.length:=by
   unfold z9Xb at hk⊢
   omega
  subst e
  simp(maxSteps:=1000000) (disch:=first|omega|(simp;done)|(simp;omega)) [z6G,z8pa,z7pa,hQ1,hQ0]
  refine z1g fun Q2 hQ2=> ?_
  refine z1v (fun i:Nat=>⟨[(0,.sl .plain nl b.length (bys b))],[(3,.sl (.own 1) (some false) (b.length+1+z9Xb b.length+i) (bys (b++128::z5j (z9Xb b.length)++be8 (8*UInt64.ofNat b.length) i))),(4,u64 (8*UInt64.ofNat b.length)),(5,i64 i)],[]⟩)
   (fun i=>8-i) (· ≤8) 0 (by simp[be8,ho]) (by decide) fun i hi=> ?_
  have hbe:=z7Kb (8*UInt64.ofNat b.length) i
  refine z1g fun Q3 hQ3=> ?_
  simp(maxSteps:=1000000) (disch:=first|omega|(simp;done)|(simp;omega)) [z6G,z8pa,z7pa]
  rw[z4h]
  refine⟨by simp,fun h=> ?_,fun h=> ?_⟩<;>simp at h
  ·have e7:((56:Int)-8*(i:Int)).toNat=56-8*i:=by omega
   simp(maxSteps:=1000000) (disch:=first|omega|(simp;done)|(simp;omega)) [z6G,z8pa,z7pa,e7]
   refine⟨by omega,by omega,?_⟩
   rw[hQ3]
   simp
   refine⟨i+1,by omega,by omega,⟨by omega,?_⟩,by omega⟩
   rw[be8]
  ·have e:i=8:=by omega
   subst e
   simp[hQ3,hQ2,z9Ya,z2la,hn,z7Kb]
   omega
theorem z4cd (x y:UInt32) (n:Nat):z7A (x|||y) n=z7A x n|||z7A y n:=by
 apply UInt32.toBitVec_inj.1
 exact BitVec.shiftLeft_or_distrib x.toBitVec y.toBitVec n
theorem z0sc (x:UInt32) (m n:Nat):z7A (z7A x m) n=z7A x (m+n):=by
 apply UInt32.toBitVec_inj.1
 exact(BitVec.shiftLeft_add x.toBitVec m n).symm
theorem z1ce (b:List UInt8) (t:Nat):ldw b t 4=z7A (at8 b (4*t)).toUInt32 24|||z7A (at8 b (4*t+1)).toUInt32 16|||z7A (at8 b (4*t+2)).toUInt32 8|||(at8 b (4*t+3)).toUInt32:=by
 have h0:z7A 0 8=0:=rfl
 have h1:∀x:UInt32,0|||x=x:=fun x=>by simp
 simp only[ldw,z4cd,z0sc,h0,h1,Nat.add_zero]
theorem z51c (E:Env) (h26:E.G 26=z34b):∀ds,z96a.pre ds→ds.length=z5wa.n∧awp E z5wa.body (z4xa z5wa.res (z96a.post ds)) (z4H z5wa.wr ds):=by
 rintro _ ⟨nl,b,hb,rfl⟩
 simp(maxSteps:=1000000) (disch:=first|omega|(simp;done)|(simp;omega)) [z6G,z8pa,z7pa,z5wa]
 refine z1g fun Q0 hQ0=> ?_
 refine z1v (fun t:Nat=>⟨[(0,.sl .plain nl 64 (bys b))],[(2,.bp 2 0),(3,.bp 3 0),(4,i64 t)],[(2,some (z7g (z9ua 64))),(3,some (z7g (z4N b t++z9ua (64-t))))]⟩)
  (fun t=>16-t) (· ≤16) 0 rfl (by decide) fun t ht=> ?_
 have hl:=z0Ca b t
 refine z1g fun Q1 hQ1=> ?_
 simp(maxSteps:=1000000) (disch:=first|omega|(simp;done)|(simp;omega)) [z6G,z8pa,z7pa]
 rw[z4h]
 refine⟨by simp,fun h=> ?_,fun h=> ?_⟩<;>simp at h
 ·have h4:(4*(t:Int)).toNat=4*t:=by omega
  have h41:(4*(t:Int)+1).toNat=4*t+1:=by omega
  have h42:(4*(t:Int)+2).toNat=4*t+2:=by omega
  have h43:(4*(t:Int)+3).toNat=4*t+3:=by omega
  simp(maxSteps:=1000000) (disch:=first|omega|(simp;done)|(simp;omega)) [z6G,z8pa,z7pa,z8hc,h4,h41,h42,h43,z8La,z4Pb,z1ub (show t<64 by omega)]
  repeat' (first|omega|apply And.intro)
  simp[hQ1]
  refine⟨t+1,by omega,by omega,by omega,?_⟩
  rw[z4N,z8ha,if_pos (by omega),show 64-(t+1)=63-t by omega,z1ce]
  simp
 ·have e:t=16:=by omega
  subst e
  simp(maxSteps:=1000000) (disch:=first|omega|(simp;done)|(simp;omega)) [z6G,z8pa,z7pa,hQ1,hQ0]
  refine z1g fun Q2 hQ2=> ?_
  refine z1v (fun t:Nat=>⟨[(0,.sl .plain nl 64 (bys b))],[(2,.bp 2 0),(3,.bp 3 0),(5,i64 t)],[(2,some (z7g (z9ua 64))),(3,some (z7g (z4N b t++z9ua (64-t))))]⟩)
   (fun t=>64-t) (fun t=>16≤t∧t≤64) 16 rfl (by decide) fun t ht=> ?_
  have hl:=z0Ca b t
  refine z1g fun Q3 hQ3=> ?_
  simp(maxSteps:=1000000) (disch:=first|omega|(simp;done)|(simp;omega)) [z6G,z8pa,z7pa]
  rw[z4h]
  refine⟨by simp,fun h2=> ?_,fun h2=> ?_⟩<;>simp at h2
  ·simp(maxSteps:=1000000) (disch:=first|omega|(simp;done)|(simp;omega)) [z6G,z8pa,z7pa,h26,z7wc,z93a,z8La,z9vc]
   repeat' (first|omega|apply And.intro)
   simp[hQ3]
   refine⟨t+1,by omega,by omega,by omega,?_⟩
   rw[z4N,z8ha,if_neg (by omega),show 64-(t+1)=63-t by omega,z1ub (by omega),show((t:Int)-16).toNat=t-16 by omega,show((t:Int)-15).toNat=t-15 by omega,show((t:Int)-7).toNat=t-7 by omega,show((t:Int)-2).toNat=t-2 by omega]
   simp[sg0,sg1]
  ·have e:t=64:=by omega
   subst e
   simp(disch:=simp[hl]) [hQ3,hQ2,z0qa,hl,List.take_of_length_le,z9ua]
end Go.Abs
end

section
namespace Go.Abs
theorem z8c {P:Nat×Bool→Prop} {l m:List (Nat×Bool)} (h:l.all (fun p=>m.contains p)=true) (hm:∀p∈m,P p):∀p∈l,P p:=fun p hp=>by
 have:=List.all_eq_true.1 h p hp
 exact hm p (by simpa using this)
end Go.Abs
end

section
namespace Go.Abs
def VBs (K:Cx):List (Nat×Bool)→Prop
 |[]=>True
 |p::l=>VB K p∧VBs K l
theorem z1Oc {K:Cx}:∀{l:List (Nat×Bool)},VBs K l→∀p∈l,VB K p
 |[],_,_,h=>by cases h
 |q::l,hl,p,h=>by
  rcases List.mem_cons.1 h with rfl|h
  ·exact hl.1
  ·exact z1Oc hl.2 p h
theorem z3id {K:Cx} {a l:List (Nat×Bool)} (hc:a.all (fun p=>l.contains p)=true) (h:VBs K l):∀p∈a,VB K p:=fun p hp=>
 z1Oc h p (by simpa using List.all_eq_true.1 hc p hp)
theorem z1H {P:Nat×Bool→Prop} {f:Nat} {l m:List (Nat×Bool)} (h:l.all (fun p=>p==(f,false)||m.contains p)=true) (hm:∀p∈m,P p):∀p∈l,p≠(f,false)→P p:=fun p hp hn=>by
 have:=List.all_eq_true.1 h p hp
 rw[Bool.or_eq_true] at this
 rcases this with h1|h1
 ·exact absurd (by simpa using h1) hn
 ·exact hm p (by simpa using h1)
section
variable {K : Cx} {f : Nat} {fn : Func} {F : z1ka}
theorem fV {c:z1f} (l:List (Nat×Bool)) (hf:K.P.funcs[K.nu f]? =some fn) (hc:(z5sa K F fn&&(z4a F.body).all (fun p=>l.contains p)&&z4ya F.body)=true) (hv:VBs K l) (h:∀ds,c.pre ds→ds.length=F.n∧awp K.E F.body (z4xa F.res (c.post ds)) (z4H F.wr ds)):z1a K f c:=by
 simp only[Bool.and_eq_true] at hc
 exact z0jb hf hc.1.1 (z3id hc.1.2 hv) h hc.2
end
end Go.Abs
end

section
namespace Go.Abs

inductive GT where
 |bool
 |int (k:IntKind)
 |str
 |sl (e:GT)
 |arr (n:Nat) (e:GT)
 |st (fs:List GT)

mutual
def GT.has:GT→List z0a→Prop
 | .bool,cs=>∃b,cs=[.lit (.bool b)]
 | .int k,cs=>∃n,cs=[.lit (.int k n)]∧k.min≤n∧n≤k.max
 | .str,cs=>∃s:ByteArray,cs=[.lit (.string s)]∧s.size≤maxLen
 | .sl e,cs=>∃ess:List (List z0a),(∀c∈ess,e.has c)∧cs=[.sl .plain none ess.length ess.flatten]∧ess.length≤maxLen
 | .arr n e,cs=>∃ess:List (List z0a),ess.length=n∧(∀c∈ess,e.has c)∧cs=ess.flatten
 | .st fs,cs=>GT.hasL fs cs
def GT.hasL:List GT→List z0a→Prop
 |[],cs=>cs=[]
 |f::fs,cs=>∃a b,cs=a++b∧f.has a∧GT.hasL fs b
end

mutual
def GT.flat:GT→Bool
 | .sl _=>false
 | .arr _ e=>e.flat
 | .st fs=>GT.flatL fs
 |_=>true
def GT.flatL:List GT→Bool
 |[]=>true
 |f::fs=>f.flat&&GT.flatL fs
end

mutual
def GT.fits (P:Program):GT→TypeId→Bool
 | .bool,t=>match P.underlying t with|some .bool=>true|_=>false
 | .int k,t=>match P.underlying t with|some (.int k')=>k==k'|_=>false
 | .str,t=>match P.underlying t with|some .string=>true|_=>false
 | .sl e,t=>match P.underlying t with|some (.slice t')=>e.fits P t'&&(P.cellsOf t' !=0)|_=>false
 | .arr n e,t=>match P.underlying t with|some (.array n' t')=>n==n'&&e.fits P t'|_=>false
 | .st fs,t=>match P.underlying t with|some (.struct F)=>GT.fitsL P fs (F.toList.map (·.type))|_=>false
def GT.fitsL (P:Program):List GT→List TypeId→Bool
 |[],[]=>true
 |f::fs,t::ts=>f.fits P t&&GT.fitsL P fs ts
 |_,_=>false
end

mutual
def wt:z0a→Nat
 | .lit (.string s)=>s.size+1
 | .sl _ _ _ cs=>wtL cs+1
 | .agg cs=>wtL cs
 |_=>1
def wtL:List z0a→Nat
 |[]=>0
 |c::cs=>wt c+wtL cs
end
theorem z0k (a b:List z0a):wtL (a++b)=wtL a+wtL b:=by
 induction a with
 |nil=>simp[wtL]
 |cons x a ih=>simp only[List.cons_append,wtL,ih];omega

structure z2ia {H:Type} (B:DataW H→Nat):Prop where
 lit:∀l,1≤B (.lit l)
 str:∀l,l.length+1≤B (.lit (.string l))
 nil:1≤B .nil
 slice:∀es sp,(es.map B).sum+1≤B (.slice es sp)
 agg:∀ps,(ps.map B).sum≤B (.agg ps)

section
variable {H : Type} {enc : TypeId × Value → H} {K : Cx} {S : Nat → Nat} {W : World} {B : DataW H → Nat}

theorem z5a.app {K:Con} {S:Nat→Nat} {w:World}:∀{ds ds':List z0a} {vs vs':List Value},z5a K S w ds vs→z5a K S w ds' vs'→z5a K S w (ds++ds') (vs++vs')
 |[],_,vs,_,h,h'=>by simp only[z5a] at h;subst h;simpa using h'
 |c::cs,_,vs,_,h,h'=>by
  simp only[z5a] at h
  obtain⟨x,xs,rfl,h1,h2⟩:=h
  simp only[List.cons_append,z5a]
  exact⟨x,xs++_,rfl,h1,z5a.app h2 h'⟩

noncomputable def z8l (w:World):Nat→Nat:=fun b=>match w.heap[b]? with|some (.cells c _ _)=>c.size|_=>0
theorem z1P {w:World} {b o:Nat} {x:Value} (h:w.cell? ⟨b,o,none⟩=some x):o<z8l w b:=by
 unfold World.cell? at h
 unfold z8l
 cases hb:w.heap[b]? with
 |none=>simp[hb] at h
 |some q=>
  cases q with
  |cells c e fr=>
   simp[hb] at h
   exact(Array.getElem?_eq_some_iff.1 h).1
  |_=>simp[hb] at h

theorem z1r {b off sz:Nat} {cs:List (List Value)} {as:List (List z0a)} (hl:as.length=cs.length) (hsz:∀(i:Nat) c,cs[i]? =some c→c.length=sz)
  (hc:∀(i:Nat) c,cs[i]? =some c→∀j,j<sz→W.cell? ⟨b,off+i*sz+j,none⟩=c[j]?) (hr:∀(i:Nat) a c,as[i]? =some a→cs[i]? =some c→z5a K.toCon (z8l W) W a c):
  z4b K.toCon (z8l W) W as.flatten b off:=by
 induction as generalizing cs off with
 |nil=>simp[z4b]
 |cons a as ih=>
  cases cs with
  |nil=>simp at hl
  |cons c cs=>
   have h0:=hr 0 a c rfl rfl
   have hlen:=h0.len
   have hcs:=hsz 0 c rfl
   have hrest:=ih (off:=off+sz) (cs:=cs) (by simpa using hl) (fun i c hi=>hsz (i+1) c (by simpa using hi)) (fun i c hi j hj=>by
    have:=hc (i+1) c (by simpa using hi) j hj
    rw[Nat.add_mul,Nat.one_mul] at this
    rw[←this]
    congr 2
    omega) (fun i a c hi hi'=>hr (i+1) a c (by simpa using hi) (by simpa using hi'))
   rw[List.flatten_cons]
   refine z4b.mk fun i d hd=> ?_
   rcases Nat.lt_or_ge i a.length with h|h
   ·rw[List.getElem?_append_left h] at hd
    obtain⟨v,hv,hp⟩:=h0.get i d hd
    have hcell:=hc 0 c rfl i (by omega)
    rw[Nat.zero_mul,Nat.add_zero,hv] at hcell
    exact⟨z1P hcell,v,hcell,hp⟩
   ·rw[List.getElem?_append_right h] at hd
    have:=hrest.get _ d hd
    rw[show off+sz+(i-a.length)=off+i by omega] at this
    exact this

theorem z6e {α β:Type} {R:α→β→Prop}:∀(l:List α),(∀x∈l,∃y,R x y)→∃r:List β,r.length=l.length∧∀(i:Nat) x y,l[i]? =some x→r[i]? =some y→R x y
 |[],_=>⟨[],rfl,fun i x y h=>by simp at h⟩
 |x::l,h=>by
  obtain⟨y,hy⟩:=h x (by simp)
  obtain⟨r,h1,h2⟩:=z6e l fun z hz=>h z (by simp[hz])
  refine⟨y::r,by simp[h1],fun i a b ha hb=> ?_⟩
  cases i with
  |zero=>simp at ha hb;subst ha;subst hb;exact hy
  |succ i=>exact h2 i a b (by simpa using ha) (by simpa using hb)

theorem z0v {α β:Type} {f:α→Nat} {g:β→Nat}:∀{l:List α} {r:List β},l.length=r.length→(∀(i:Nat) a b,l[i]? =some a→r[i]? =some b→f a≤g b)→(l.map f).sum≤(r.map g).sum
 |[],[],_,_=>by simp
 |[],_::_,h,_=>by simp at h
 |_::_,[],h,_=>by simp at h
 |x::l,y::r,h,hi=>by
  have h1:=hi 0 x y rfl rfl
  have h2:=z0v (l:=l) (r:=r) (by simpa using h) fun i a b ha hb=>hi (i+1) a b (by simpa using ha) (by simpa using hb)
  simp only[List.map_cons,List.sum_cons]
  omega
theorem z6i (l:List (List z0a)):wtL l.flatten=(l.map wtL).sum:=by
 induction l with
 |nil=>simp[wtL]
 |cons x l ih=>simp[z0k,ih]

theorem z9v {sp:Nat→Bool} {fuel:Nat} {e:GT} {t:TypeId} (sz:Nat)
  (one:∀(cs:List Value) d p,DataW.trod enc K.P W 0 sp true fuel t cs=some (d,p)→∃as,e.has as∧z5a K.toCon (z8l W) W as cs∧wtL as≤B d)
  {css:List (List Value)} {xs:List (DataW H×List MemPlace)} (hlen:xs.length=css.length) (hx:∀(i:Nat) c,css[i]? =some c→DataW.trod enc K.P W 0 sp true fuel t c=xs[i]?):
  ∃ess:List (List z0a),ess.length=css.length∧(∀c∈ess,e.has c)∧(∀(i:Nat) a c,ess[i]? =some a→css[i]? =some c→z5a K.toCon (z8l W) W a c)∧wtL ess.flatten≤((xs.map (·.1)).map B).sum:=by
 obtain⟨ess,h1,h2⟩:=z6e (R:=fun(i:Nat) (as:List z0a)=>∃c x,css[i]? =some c∧xs[i]? =some x∧e.has as∧z5a K.toCon (z8l W) W as c∧wtL as≤B x.1) (List.range css.length) fun i hi=>by
  have hi:i<css.length:=by simpa using hi
  have hc:css[i]? =some css[i]:=List.getElem?_eq_getElem hi
  have hxi:xs[i]? =some xs[i]:=List.getElem?_eq_getElem (by omega)
  have:=hx i _ hc
  rw[hxi] at this
  obtain⟨as,k1,k2,k3⟩:=one _ xs[i].1 xs[i].2 this
  exact⟨as,_,_,hc,hxi,k1,k2,k3⟩
 have hl1:ess.length=css.length:=by simpa using h1
 have g:∀(i:Nat) a,ess[i]? =some a→∃c x,css[i]? =some c∧xs[i]? =some x∧e.has a∧z5a K.toCon (z8l W) W a c∧wtL a≤B x.1:=fun i a ha=>by
  have hi:i<ess.length:=(List.getElem?_eq_some_iff.1 ha).1
  exact h2 i i a (List.getElem?_range (by omega)) ha
 refine⟨ess,hl1,fun a ha=> ?_,fun i a c ha hc=> ?_,?_⟩
 ·obtain⟨i,hi,rfl⟩:=List.getElem_of_mem ha
  obtain⟨_,_,_,_,k,_⟩:=g i _ (List.getElem?_eq_getElem hi)
  exact k
 ·obtain⟨c',_,k1,_,_,k2,_⟩:=g i a ha
  rw[hc] at k1
  cases k1
  exact k2
 ·rw[z6i,List.map_map]
  refine z0v (by omega) fun i a x ha hxi=> ?_
  obtain⟨_,x',_,k1,_,_,k2⟩:=g i a ha
  rw[hxi] at k1
  cases k1
  exact k2

mutual
theorem read (hB:z2ia B) (hl:laidOutB K.P=true) {sp:Nat→Bool}:∀(gt:GT) (fuel:Nat) (t:TypeId) (cs:List Value) (d:DataW H) (p:List MemPlace),DataW.trod enc K.P W 0 sp true fuel t cs=some (d,p)→gt.fits K.P t=true→t<K.P.types.size→
  (∀b,sp b=true)→∃as,gt.has as∧z5a K.toCon (z8l W) W as cs∧wtL as≤B d
 |gt,0,t,cs,d,p,h,_,_,_=>by simp[DataW.trod] at h
 | .bool,fuel+1,t,cs,d,p,h,hf,ht,hs=>by
  simp only[GT.fits] at hf
  split at hf
  ·rename_i hu
   simp only[DataW.trod,hu] at h
   split at h<;>simp_all
   obtain⟨rfl,rfl⟩:=h
   rename_i b
   exact⟨[.lit (.bool b)],⟨b,rfl⟩,by simp[z5a,z9b],by have:=hB.lit (.bool b);simpa[wtL,wt] using this⟩
  ·cases hf
 | .int k,fuel+1,t,cs,d,p,h,hf,ht,hs=>by
  simp only[GT.fits] at hf
  split at hf
  ·rename_i k' hu
   simp only[beq_iff_eq] at hf
   subst hf
   obtain⟨n,rfl,hx,hw⟩:=DataW.trod_int hu h
   cases hx
   simp only[Lit.wf,Bool.and_eq_true,decide_eq_true_eq] at hw
   exact⟨_,⟨n,rfl,hw.1,hw.2⟩,by simp[z5a,z9b],by have:=hB.lit (.int k n);simpa[wtL,wt] using this⟩
  ·cases hf
 | .str,fuel+1,t,cs,d,p,h,hf,ht,hs=>by
  simp only[GT.fits] at hf
  split at hf
  ·rename_i hu
   obtain⟨s,rfl,hx,hw⟩:=DataW.trod_string hu h
   cases hx
   refine⟨[.lit (.string s)],⟨s,rfl,hw⟩,by simp only[z5a,z9b];exact⟨_,_,rfl,rfl,rfl⟩,?_⟩
   have:=hB.str s.data.toList
   have e:s.data.toList.length=s.size:=Array.length_toList
   simp only[wtL,wt]
   omega
  ·cases hf
 | .sl e,fuel+1,t,cs,d,p,h,hf,ht,hs=>by
  simp only[GT.fits] at hf
  split at hf
  ·rename_i t' hu
   simp only[Bool.and_eq_true,bne_iff_ne,ne_eq] at hf
   obtain⟨hf,hz⟩:=hf
   have ht':=kid_slice hl ht hu
   simp only[DataW.trod,hu] at h
   have nilc:cs=[.slice none 0 0]→d= .nil→∃as,(GT.sl e).has as∧z5a K.toCon (z8l W) W as cs∧wtL as≤B d:=by
    rintro rfl rfl
    refine⟨[.sl .plain none 0 []],⟨[],by simp,rfl,Nat.zero_le _⟩,by simp only[z5a,z9b];exact⟨_,_,rfl,.inr ⟨none,by simp⟩,rfl⟩,?_⟩
    have:=hB.nil
    simpa[wtL,wt] using this
   split at h
   all_goals (try (simp only[reduceCtorEq,Option.some.injEq,TypeDesc.slice.injEq,Prod.mk.injEq] at h))
   all_goals (try (rename_i hh;simp only[reduceCtorEq,Option.some.injEq,TypeDesc.slice.injEq] at hh))
   ·exact nilc rfl h.1.symm
   ·subst hh
    rename_i a len cap
    split at h
    ·rename_i hb
     obtain⟨hb0,hlc,hcap⟩:=hb
     simp only[Option.bind_eq_some_iff,Option.map_eq_some_iff] at h
     obtain⟨elems,hel,rest,hrest,hd⟩:=h
     cases hd
     have hlen:=mapM_some_length hel
     cases hsp:a.spot with
     |some s0=>
      rw[if_pos (hs _)] at hrest
      have bad:∀x,((W.cells? 0 (a.add (0*K.P.cellsOf t')) (K.P.cellsOf t')).bind (DataW.trod enc K.P W 0 sp true fuel t'))=some x→False:=fun x hx=>by
       obtain⟨c,h2,_⟩:=Option.bind_eq_some_iff.1 hx
       obtain⟨_,h3,h4⟩:=World.cells?_some h2
       have:=h4 0 (by omega)
       have h5:W.cell? ((a.add (0*K.P.cellsOf t')).add 0)=none:=by
        unfold World.cell?
        split
        ·rw[if_pos (by simp[Addr.add,hsp,Nat.zero_mul])]
        ·rfl
       rw[h5] at this
       have h6:=List.getElem?_eq_none_iff.1 this.symm
       omega
      have hc0:cap=0:=by
       rcases Nat.eq_zero_or_pos cap with h0|h0
       ·exact h0
       ·exfalso
        rcases Nat.eq_zero_or_pos len with hl0|hl0
        ·have h1:=mapM_some_get hrest 0 0 (List.getElem?_range (by omega))
         cases hr:rest[0]? with
         |none=>
          have:=mapM_some_length hrest
          have h7:=List.getElem?_eq_none_iff.1 hr
          simp at this
          omega
         |some x=>rw[hr] at h1;exact bad x (by simpa[hl0] using h1)
        ·have h1:=mapM_some_get hel 0 0 (List.getElem?_range (by omega))
         cases hr:elems[0]? with
         |none=>
          have h7:=List.getElem?_eq_none_iff.1 hr
          simp at hlen
          omega
         |some x=>rw[hr] at h1;exact bad x h1
      have hl0:len=0:=by omega
      subst hc0 hl0
      refine⟨[.sl .plain none 0 []],⟨[],by simp,rfl,Nat.zero_le _⟩,by simp only[z5a,z9b];exact⟨_,_,rfl,.inr ⟨some a,by simp⟩,rfl⟩,?_⟩
      have:=hB.slice (elems.map (·.1)) (rest.map (·.1))
      simp only[wtL,wt]
      omega
     |none=>
     obtain⟨b,off,spot⟩:=a
     simp only at hsp
     subst hsp
     have hget:∀i,i<len→∃c,W.cells? 0 ((⟨b,off,none⟩:Addr).add (i*K.P.cellsOf t')) (K.P.cellsOf t')=some c∧DataW.trod enc K.P W 0 sp true fuel t' c=elems[i]? :=fun i hi=>by
      have h1:=mapM_some_get hel i i (by simp[hi])
      have hi':i<elems.length:=by rw[hlen];simpa using hi
      rw[List.getElem?_eq_getElem hi'] at h1
      obtain⟨c,h2,h3⟩:=Option.bind_eq_some_iff.1 h1
      exact⟨c,h2,by rw[h3,List.getElem?_eq_getElem hi']⟩
     obtain⟨css,hcl,hcs⟩:=z6e (R:=fun(i:Nat) (c:List Value)=>W.cells? 0 ((⟨b,off,none⟩:Addr).add (i*K.P.cellsOf t')) (K.P.cellsOf t')=some c∧DataW.trod enc K.P W 0 sp true fuel t' c=elems[i]?) (List.range len) (fun i hi=>hget i (by simpa using hi))
     simp only[List.length_range] at hcl hlen
     have hcs':∀(i:Nat) c,css[i]? =some c→W.cells? 0 ((⟨b,off,none⟩:Addr).add (i*K.P.cellsOf t')) (K.P.cellsOf t')=some c∧DataW.trod enc K.P W 0 sp true fuel t' c=elems[i]? :=fun i c hc=>by
      have hi:i<css.length:=(List.getElem?_eq_some_iff.1 hc).1
      exact hcs i i c (List.getElem?_range (by omega)) hc
     obtain⟨ess,k1,k2,k3,k4⟩:=z9v (K.P.cellsOf t') (fun c d p hh=>read hB hl e fuel t' c d p hh hf ht' hs) (css:=css) (xs:=elems) (by omega) (fun i c hc=>(hcs' i c hc).2)
     refine⟨_,⟨ess,k2,rfl,by omega⟩,?_,?_⟩
     ·simp only[z5a,z9b]
      refine⟨_,_,rfl,.inl ⟨b,off,cap,by rw[k1,hcl],by omega,?_,by simp,by simp⟩,rfl⟩
      refine z1r (cs:=css) (sz:=K.P.cellsOf t') k1 (fun i c hc=>(World.cells?_some (hcs' i c hc).1).2.1) (fun i c hc j hj=> ?_) k3
      have:=(World.cells?_some (hcs' i c hc).1).2.2 j hj
      rw[←this,Addr.add_mid,Addr.add_mid]
     ·have:=hB.slice (elems.map (·.1)) (rest.map (·.1))
      simp only[wtL,wt]
      omega
    ·cases h
   all_goals simp_all
  ·cases hf
 | .arr n e,fuel+1,t,cs,d,p,h,hf,ht,hs=>by
  simp only[GT.fits] at hf
  split at hf
  ·rename_i n' t' hu
   simp only[Bool.and_eq_true,beq_iff_eq] at hf
   obtain⟨rfl,hf⟩:=hf
   obtain⟨ht',hct⟩:=kid_array hl ht hu
   simp only[DataW.trod,hu] at h
   split at h
   ·rename_i hlen
    simp only[Option.map_eq_some_iff] at h
    obtain⟨xs,hm,hd⟩:=h
    cases hd
    have hxl:=mapM_some_length hm
    simp only[List.length_range] at hxl
    let css:=(List.range n).map fun i=>(cs.drop (i*K.P.cellsOf t')).take (K.P.cellsOf t')
    have hcss:∀(i:Nat) c,css[i]? =some c→i<n∧c=(cs.drop (i*K.P.cellsOf t')).take (K.P.cellsOf t'):=fun i c hc=>by
     simp only[css,List.getElem?_map,Option.map_eq_some_iff] at hc
     obtain⟨j,hj,rfl⟩:=hc
     obtain⟨h1,h2⟩:=List.getElem?_eq_some_iff.1 hj
     simp only[List.length_range] at h1
     simp only[List.getElem_range] at h2
     subst h2
     exact⟨h1,rfl⟩
    obtain⟨ess,h1,h2⟩:=z6e (R:=fun(i:Nat) (as:List z0a)=>∃c x,css[i]? =some c∧xs[i]? =some x∧e.has as∧z5a K.toCon (z8l W) W as c∧wtL as≤B x.1) (List.range n) fun i hi=>by
     have hi:i<n:=by simpa using hi
     have hc:css[i]? =some ((cs.drop (i*K.P.cellsOf t')).take (K.P.cellsOf t')):=by simp[css,hi]
     have hxi:xs[i]? =some xs[i]:=List.getElem?_eq_getElem (by omega)
     have:=mapM_some_get hm i i (by simp[hi])
     rw[hxi] at this
     obtain⟨as,k1,k2,k3⟩:=read hB hl e fuel t' _ xs[i].1 xs[i].2 this hf ht' hs
     exact⟨as,_,_,hc,hxi,k1,k2,k3⟩
    have hl1:ess.length=n:=by simpa using h1
    have g:∀(i:Nat) a,ess[i]? =some a→∃c x,css[i]? =some c∧xs[i]? =some x∧e.has a∧z5a K.toCon (z8l W) W a c∧wtL a≤B x.1:=fun i a ha=>by
     have hi:i<ess.length:=(List.getElem?_eq_some_iff.1 ha).1
     exact h2 i i a (List.getElem?_range (by omega)) ha
    refine⟨_,⟨ess,hl1,fun a ha=> ?_,rfl⟩,?_,?_⟩
    ·obtain⟨i,hi,rfl⟩:=List.getElem_of_mem ha
     obtain⟨_,_,_,_,k,_⟩:=g i _ (List.getElem?_eq_getElem hi)
     exact k
    ·have flat:∀(k:Nat) (l:List (List z0a)),(∀(i:Nat) a,l[i]? =some a→z5a K.toCon (z8l W) W a ((cs.drop ((k+i)*K.P.cellsOf t')).take (K.P.cellsOf t')))→k+l.length=n→z5a K.toCon (z8l W) W l.flatten (cs.drop (k*K.P.cellsOf t')):=by
      intro k l
      induction l generalizing k with
      |nil=>
       intro _ hk
       simp only[List.length_nil,Nat.add_zero] at hk
       rw[hk,List.drop_of_length_le (by omega)]
       simp[z5a]
      |cons a l ih=>
       intro hi hk
       have h0:=hi 0 a rfl
       have hr:=ih (k+1) (fun i a ha=>by
        have:=hi (i+1) a (by simpa using ha)
        rwa[show k+(i+1)=k+1+i by omega] at this) (by simp at hk;omega)
       rw[Nat.add_zero] at h0
       have e1:cs.drop (k*K.P.cellsOf t')=(cs.drop (k*K.P.cellsOf t')).take (K.P.cellsOf t')++cs.drop ((k+1)*K.P.cellsOf t'):=by
        rw[Nat.add_mul,Nat.one_mul,←List.drop_drop,List.take_append_drop]
       rw[e1,List.flatten_cons]
       exact z5a.app h0 hr
     have:=flat 0 ess (fun i a ha=>by
      obtain⟨c,_,k1,_,_,k2,_⟩:=g i a ha
      rw[Nat.zero_add]
      rwa[(hcss i c k1).2] at k2) (by omega)
     simpa using this
    ·rw[z6i]
     refine Nat.le_trans ?_ (hB.agg (xs.map (·.1)))
     rw[List.map_map]
     refine z0v (by omega) fun i a x ha hxi=> ?_
     obtain⟨_,x',_,k1,_,_,k2⟩:=g i a ha
     rw[hxi] at k1
     cases k1
     exact k2
   ·cases h
  ·cases hf
 | .st fs,fuel+1,t,cs,d,p,h,hf,ht,hs=>by
  simp only[GT.fits] at hf
  split at hf
  ·rename_i F hu
   obtain⟨h1,h2,h3⟩:=kid_struct hl ht hu
   simp only[DataW.trod,hu] at h
   split at h
   ·rename_i hlen
    simp only[Option.map_eq_some_iff] at h
    obtain⟨xs,hm,hd⟩:=h
    cases hd
    obtain⟨as,k1,k2,k3⟩:=z05 hB hl fs F.toList 0 fuel cs xs hm hf h1 (fun j f hj=>by rw[h3 j f hj,Nat.zero_add]) hs (by rw[Nat.zero_add,←h2,hlen];exact Nat.le_refl _)
    refine⟨as,k1,?_,Nat.le_trans k3 (hB.agg _)⟩
    rw[List.drop_zero,List.take_of_length_le (by omega)] at k2
    exact k2
   ·cases h
  ·cases hf
theorem z05 (hB:z2ia B) (hl:laidOutB K.P=true) {sp:Nat→Bool}:∀(gs:List GT) (F:List Field) (off:Nat) (fuel:Nat) (cs:List Value) (xs:List (DataW H×List MemPlace)),
  F.mapM (fun f=>DataW.trod enc K.P W 0 sp true fuel f.type ((cs.drop f.offset).take (K.P.cellsOf f.type)))=some xs→GT.fitsL K.P gs (F.map (·.type))=true→(∀f∈F,f.type<K.P.types.size)→
  (∀(j:Nat) f,F[j]? =some f→f.offset=off+((F.take j).map fun f=>K.P.cellsOf f.type).sum)→(∀b,sp b=true)→off+(F.map fun f=>K.P.cellsOf f.type).sum≤cs.length→
  ∃as,GT.hasL gs as∧z5a K.toCon (z8l W) W as ((cs.drop off).take (F.map fun f=>K.P.cellsOf f.type).sum)∧wtL as≤((xs.map (·.1)).map B).sum
 |[],[],off,fuel,cs,xs,hm,hf,ht,ho,hs,hc=>by
  simp at hm
  subst hm
  exact⟨[],by simp[GT.hasL],by simp[z5a],by simp[wtL]⟩
 |[],_::_,off,fuel,cs,xs,hm,hf,ht,ho,hs,hc=>by simp[GT.fitsL] at hf
 |_::_,[],off,fuel,cs,xs,hm,hf,ht,ho,hs,hc=>by simp[GT.fitsL] at hf
 |g::gs,f::F,off,fuel,cs,xs,hm,hf,ht,ho,hs,hc=>by
  simp only[List.map_cons,GT.fitsL,Bool.and_eq_true] at hf
  simp only[List.mapM_cons,Option.bind_eq_bind,Option.bind_eq_some_iff,Option.pure_def,Option.some.injEq] at hm
  obtain⟨x,hx,xs',hm',rfl⟩:=hm
  have h0:=ho 0 f rfl
  simp only[List.take_zero,List.map_nil,List.sum_nil,Nat.add_zero] at h0
  simp only[List.map_cons,List.sum_cons] at hc
  obtain⟨as,k1,k2,k3⟩:=read hB hl g fuel f.type _ x.1 x.2 hx hf.1 (ht f (by simp)) hs
  obtain⟨bs,m1,m2,m3⟩:=z05 hB hl gs F (off+K.P.cellsOf f.type) fuel cs xs' hm' hf.2 (fun f' hf'=>ht f' (by simp[hf'])) (fun j f' hj=>by
   have:=ho (j+1) f' (by simpa using hj)
   simp only[List.take_succ_cons,List.map_cons,List.sum_cons] at this
   omega) hs (by omega)
  refine⟨as++bs,⟨as,bs,rfl,k1,m1⟩,?_,?_⟩
  ·rw[h0] at k2
   rw[List.map_cons,List.sum_cons,List.take_add,List.drop_drop]
   exact z5a.app k2 m2
  ·rw[z0k]
   simp only[List.map_cons,List.sum_cons]
   omega
end
end
end Go.Abs
end

section
namespace Go.Abs
open Go.RowKit Go.WideShapes Go.ChangeShapes

def GT.row:GT→Bool
 | .arr _ _=>true
 | .st _=>true
 |_=>false
def GT.top (g:GT) (cs:List z0a):z0a:=if g.row then .agg cs else cs.headD .undef
def z1Gd:List GT→List z0a→Prop
 |[],as=>as=[]
 |g::gs,as=>∃cs r,as=g.top cs::r∧g.has cs∧z1Gd gs r

section
variable {H : Type} {enc : TypeId × Value → H} {K : Cx} {W : World} {B : DataW H → Nat}

theorem z59c (hB:z2ia B) (hl:laidOutB K.P=true) {sp:Nat→Bool} {base:Nat} {g:GT} {t:TypeId} {v:Value} {d:DataW H} {p:List MemPlace} (hok:Value.okWide K.P W .any base t v)
  (h:DataW.Trod enc K.P W 0 sp true t v d p) (hf:g.fits K.P t=true) (ht:t<K.P.types.size) (hs:∀b,sp b=true):∃cs,g.has cs∧z9b K.toCon (z8l W) W (g.top cs) v∧wtL cs≤B d:=by
 obtain⟨fuel,h⟩:=h
 have row:g.row=true→(∃a,v= .agg a)→∃cs,g.has cs∧z9b K.toCon (z8l W) W (g.top cs) v∧wtL cs≤B d:=by
  rintro hr ⟨a,rfl⟩
  obtain⟨cs,k1,k2,k3⟩:=read hB hl g fuel t _ d p h hf ht hs
  refine⟨cs,k1,?_,k3⟩
  rw[GT.top,if_pos hr]
  simp only[z9b]
  exact⟨a,rfl,k2⟩
 have one:g.row=false→v.cells= #[v]→∃cs,g.has cs∧z9b K.toCon (z8l W) W (g.top cs) v∧wtL cs≤B d:=by
  intro hr hc
  rw[hc] at h
  obtain⟨cs,k1,k2,k3⟩:=read hB hl g fuel t _ d p h hf ht hs
  refine⟨cs,k1,?_,k3⟩
  rw[GT.top,if_neg (by simp[hr])]
  cases cs with
  |nil=>simp[z5a] at k2
  |cons c r=>
   simp only[z5a] at k2
   obtain⟨x,xs,e,k4,_⟩:=k2
   simp only[List.cons.injEq] at e
   rw[e.1]
   exact k4
 cases g with
 |bool=>
  simp only[GT.fits] at hf
  split at hf
  ·rename_i hu
   obtain⟨b,rfl⟩:=okWide_bool hu hok
   exact one rfl rfl
  ·cases hf
 |int k=>
  simp only[GT.fits] at hf
  split at hf
  ·rename_i k' hu
   obtain⟨b,rfl⟩:=okWide_int hu hok
   exact one rfl rfl
  ·cases hf
 |str=>
  simp only[GT.fits] at hf
  split at hf
  ·rename_i hu
   obtain⟨b,rfl⟩:=okWide_string hu hok
   exact one rfl rfl
  ·cases hf
 |sl e=>
  simp only[GT.fits] at hf
  split at hf
  ·rename_i t' hu
   obtain⟨a,n,c,rfl⟩:=okWide_slice hu hok
   exact one rfl rfl
  ·cases hf
 |arr n e=>
  simp only[GT.fits] at hf
  split at hf
  ·rename_i n' t' hu
   have hok':=hok
   simp only[Value.okWide,hu] at hok'
   obtain⟨cs,rfl,_,h3⟩:=hok'
   exact row rfl ⟨cs,rfl⟩
  ·cases hf
 |st fs=>
  simp only[GT.fits] at hf
  split at hf
  ·rename_i F hu
   have hok':=hok
   simp only[Value.okWide,hu] at hok'
   obtain⟨cs,rfl,_,h3⟩:=hok'
   exact row rfl ⟨cs,rfl⟩
  ·cases hf

theorem z0jc (hB:z2ia B) (hl:laidOutB K.P=true) {sp:Nat→Bool} {base:Nat}:∀(gs:List GT) (ts:List TypeId) (vs:List Value) (ds:List (DataW H)) (p:List MemPlace),
  DataW.TrodAll enc K.P W 0 sp true ts vs ds p→(∀(j:Nat) t v,ts[j]? =some t→vs[j]? =some v→Value.okWide K.P W .any base t v)→GT.fitsL K.P gs ts=true→(∀t∈ts,t<K.P.types.size)→(∀b,sp b=true)→
  ∃as,z1Gd gs as∧z5a K.toCon (z8l W) W as vs∧wtL as≤(ds.map B).sum
 |[],[],vs,ds,p,h,_,_,_,_=>by
  obtain⟨rfl,rfl,rfl⟩:=trodAll_nil h
  exact⟨[],by simp[z1Gd],by simp[z5a],by simp[wtL]⟩
 |[],_::_,_,_,_,_,_,hf,_,_=>by simp[GT.fitsL] at hf
 |_::_,[],_,_,_,_,_,hf,_,_=>by simp[GT.fitsL] at hf
 |g::gs,t::ts,vs,ds,p,h,hok,hf,ht,hs=>by
  obtain⟨v,vs',d,ds',p',q,rfl,rfl,rfl,h0,hr⟩:=trodAll_cons h
  simp only[GT.fitsL,Bool.and_eq_true] at hf
  obtain⟨cs,k1,k2,k3⟩:=z59c hB hl (hok 0 t v rfl rfl) h0 hf.1 (ht t (by simp)) hs
  obtain⟨as,m1,m2,m3⟩:=z0jc hB hl gs ts vs' ds' q hr (fun j t v h1 h2=>hok (j+1) t v (by simpa using h1) (by simpa using h2)) hf.2 (fun t h=>ht t (by simp[h])) hs
  refine⟨g.top cs::as,⟨cs,as,rfl,k1,m1⟩,?_,?_⟩
  ·simp only[z5a]
   exact⟨v,vs',rfl,k2,m2⟩
  ·have:wt (g.top cs)≤wtL cs:=by
    unfold GT.top
    split
    ·simp[wt]
    ·cases cs with
     |nil=>
      have:z9b K.toCon (z8l W) W (g.top []) v:=k2
      cases g<;>simp_all [GT.has,GT.row]
     |cons c r=>simp[wtL]
   simp only[wtL,List.map_cons,List.sum_cons]
   omega
end

theorem z44b {H:Type} {enc:TypeId×Value→H} {P:Program} {f:Func} {s:ChangeSpec} {apart fresh handsOn again:Bool} {W W':World} {args:Array Value} {v:Value} {ds gs:List (DataW H)} {before pa pv:List MemPlace}
  (hW:DataW.Whole enc P f.params.toList s.vars apart W args.toList ds gs before)
  (hres:∀(b:Nat) (sp:Nat→Bool) (hd:Bool),DataW.TrodAll enc P W' b sp hd f.resultTypes.toList (v.resultList f.resultTypes.size) (s.fn H (ds++gs)).results [])
  (hargs:∀sp:Nat→Bool,(∀p∈before,sp p.block=true)→DataW.TrodAll enc P W' 0 sp true f.params.toList args.toList (s.fn H (ds++gs)).args pa)
  (hvars:∀sp:Nat→Bool,(∀p∈before,sp p.block=true)→DataW.TrodVars enc P W' sp s.vars (s.fn H (ds++gs)).vars pv)
  (hps:before=pa++pv) (hb:Below W.heap.size W W')
  (hok:∀(j:Nat) (t:TypeId) (r:Value),f.resultTypes[j]? =some t→(v.resultList f.resultTypes.size)[j]? =some r→Value.okWide P W' .any 0 t r):
  s.post enc P f apart fresh handsOn again W args v W':=by
 have hlt:∀p∈before,p.block<W.heap.size:=fun p hp=>hW.lt p hp
 have hold:∀p∈before,(fun b=>decide (b<W.heap.size)) p.block=true:=fun p hp=>by simpa using hlt p hp
 refine⟨ds,gs,before,[],pa,pv,hW,hres _ _ _,hargs _ hold,hvars _ hold,World.keptBut_mono (fun p hp=>⟨hp,?_⟩) (hb.frame (· ∈before)),fun _=> ?_⟩
 ·rw[hps,List.mem_append] at hp
  exact Or.inr hp
 ·obtain⟨_,_,_,_,_,hz,hn⟩:=hW
  refine⟨hok,_,_,([]++pa)++pv,⟨[]++pa,pv,trodAll_append (hargs _ (fun _ _=>rfl)) (hres _ _ _),hvars _ (fun _ _=>rfl),rfl,?_,?_⟩,?_⟩
  ·intro b off hp
   have hin:MemPlace.cell b off∈before:=by rw[hps];simpa using hp
   rw[hb.frozen (hlt _ hin)]
   exact hz b off hin
  ·intro ha
   have:=hn ha
   rw[hps] at this
   simpa using this
  ·intro p hp _
   rw[hps]
   simpa using hp

section
variable {H : Type} {enc : TypeId × Value → H} {K : Cx} {B : DataW H → Nat}

theorem z8dc (hl:laidOutB K.P=true) {W W':World} (hb:Below W.heap.size W W') {sp:Nat→Bool}:∀(ts:List TypeId) (vs:List Value) (ds:List (DataW H)) (p:List MemPlace),
  (∀t∈ts,K.P.readableRec t=true∧t<K.P.types.size)→DataW.TrodAll enc K.P W 0 (fun _=>true) true ts vs ds p→(∀x∈p,x.block<W.heap.size∧sp x.block=true)→DataW.TrodAll enc K.P W' 0 sp true ts vs ds p
 |[],vs,ds,p,_,h,_=>by
  obtain⟨rfl,rfl,rfl⟩:=trodAll_nil h
  exact trodAll_mk0
 |t::ts,vs,ds,p,ht,h,hp=>by
  obtain⟨v,vs',d,ds',p',q,rfl,rfl,rfl,h0,hr⟩:=trodAll_cons h
  obtain⟨h1,h2⟩:=ht t (by simp)
  refine trodAll_cons_mk (WideElems.Trod_stays hl h1 h2 h0 (fun x hx=>hb.same (hp x (by simp[hx])).1) (fun x hx=>(hp x (by simp[hx])).2)) (z8dc hl hb ts vs' ds' q (fun t h=>ht t (by simp[h])) hr (fun x hx=>hp x (by simp[hx])))

theorem z98c {f:Nat} {fn:Func} {s:ChangeSpec} {c:z1f} {gts:List GT} {tb:TypeId} {W:World} {base:Nat} {args:Array Value} {ds gs:List (DataW H)} {before:List MemPlace}
  (hv:z1a K f c) (hl:laidOutB K.P=true) (hB:z2ia B)
  (hts:(fn.params.toList.all fun t=>K.P.readableRec t&&decide (t<K.P.types.size))=true) (hfit:GT.fitsL K.P gts fn.params.toList=true) (hres:fn.resultTypes= #[tb]) (htb:K.P.underlying tb=some .bool)
  (hvars:s.vars=[]) (hspec:∀ds:List (DataW H),ds.length=fn.params.size→s.fn H ds={results:=[.lit (.bool true)],args:=ds})
  (hgl:∀n∈K.N.gs,z4b K.toCon (z8l W) W (K.E.T n) (K.N.gnum n) 0)
  (hpre:∀as,z1Gd gts as→wtL as≤(ds.map B).sum→c.pre as) (hpost:∀as,c.pre as→c.post as= .lit (.bool true))
  (hval:∀(j:Nat) t v,fn.params[j]? =some t→args[j]? =some v→Value.okWide K.P W .any base t v)
  (hW:DataW.Whole enc K.P fn.params.toList s.vars false W args.toList ds gs before):
  Calls K.P (K.nu f) args W fun e W'=>∃v,e= .returned v∧s.post enc K.P fn false true false false W args v W':=by
 have hW':=hW
 obtain⟨p,q,hA,hV,rfl,hfz,hnd⟩:=hW
 rw[hvars] at hV
 have hgq:gs=[]∧q=[]:=by
  cases gs with
  |nil=>simp only[DataW.TrodVars] at hV;exact⟨rfl,hV⟩
  |cons _ _=>simp only[DataW.TrodVars] at hV
 obtain⟨rfl,rfl⟩:=hgq
 have hts':∀t∈fn.params.toList,K.P.readableRec t=true∧t<K.P.types.size:=fun t ht=>by
  have:=List.all_eq_true.1 hts t ht
  simpa[Bool.and_eq_true] using this
 obtain⟨as,k1,k2,k3⟩:=z0jc hB hl (base:=base) gts fn.params.toList args.toList ds p hA (fun j t v h1 h2=>hval j t v (by simpa using h1) (by simpa using h2)) hfit (fun t ht=>(hts' t ht).2) (fun _=>rfl)
 have hp:=hpre as k1 k3
 have hc:=hv.2 (z8l W) W as args.toList hgl k2 hp
 rw[Array.toArray_toList] at hc
 refine hc.mono fun e W' ⟨v,g',he,hfr,hrep,_,_⟩=>⟨v,he,?_⟩
 rw[hpost as hp] at hrep
 simp only[Rep] at hrep
 subst hrep
 have hb:Below W.heap.size W W':=⟨hfr.os,hfr.tape,hfr.output,hfr.size,fun k hk=>hfr.block k hk (fun h=>h)⟩
 have hdl:∀(ts:List TypeId) (vs:List Value) (ds:List (DataW H)) (p:List MemPlace),DataW.TrodAll enc K.P W 0 (fun _=>true) true ts vs ds p→ds.length=ts.length:=by
  intro ts
  induction ts with
  |nil=>
   intro vs ds p h
   obtain⟨_,rfl,_⟩:=trodAll_nil h
   rfl
  |cons t ts ih=>
   intro vs ds p h
   obtain⟨v,vs',d,ds',p',q,rfl,rfl,rfl,h0,hr⟩:=trodAll_cons h
   simp[ih _ _ _ hr]
 have hlen:(ds++[]).length=fn.params.size:=by
  rw[List.append_nil,hdl _ _ _ _ hA]
  simp
 have hsp:=hspec (ds++[]) hlen
 refine z44b hW' (pa:=p) (pv:=[]) (fun b sp hd=> ?_) (fun sp hs=> ?_) (fun sp hs=> ?_) rfl hb ?_
 ·rw[hsp,hres]
  exact trodAll_mk1 (shut_bool htb true)
 ·rw[hsp,List.append_nil]
  exact z8dc hl hb _ _ _ _ hts' hA (fun x hx=>⟨hW'.lt x (by simpa using hx),hs x (by simpa using hx)⟩)
 ·rw[hsp,hvars]
  simp[DataW.TrodVars]
 ·rw[hres]
  intro j t r h1 h2
  have:=ok_one (f:=fn) (v:= .bool true) hres rfl (okWide_bool_mk (P:=K.P) (W':=W') htb true)
  exact this j t r (by rw[hres];exact h1) (by rw[hres];exact h2)
end
end Go.Abs
end

section
namespace Go.Abs
theorem z7Xd {cs:List z0a} (h:(GT.int .u8).has cs):∃x:UInt8,cs=[u8 x]:=by
 simp only[GT.has] at h
 obtain⟨n,rfl,h0,h1⟩:=h
 have e0:IntKind.u8.min=0:=rfl
 have e1:IntKind.u8.max=255:=rfl
 rw[e0] at h0
 rw[e1] at h1
 refine⟨UInt8.ofInt n,?_⟩
 have:((UInt8.ofInt n).toNat:Int)=n:=by rw[z5t];omega
 rw[u8,this]
theorem z9Aa {cs:List z0a} (h:(GT.int .i64).has cs):∃x:Int,-9223372036854775808≤x∧x≤9223372036854775807∧cs=[i64 x]:=by
 simp only[GT.has] at h
 obtain⟨n,rfl,h0,h1⟩:=h
 exact⟨n,h0,h1,rfl⟩
theorem z28c {cs:List z0a} (h:GT.bool.has cs):∃x:Bool,cs=[bo x]:=by
 simp only[GT.has] at h
 exact h
theorem z2yd {cs:List z0a} (h:GT.str.has cs):∃l:List UInt8,cs=[st l]:=by
 simp only[GT.has] at h
 obtain⟨s,rfl,_⟩:=h
 exact⟨s.data.toList,by simp[st]⟩
theorem z6Vc {α:Type} {P:List z0a→Prop} {f:α→List z0a} (h:∀cs,P cs→∃x,cs=f x):∀(ess:List (List z0a)),(∀c∈ess,P c)→∃l:List α,ess=l.map f
 |[],_=>⟨[],rfl⟩
 |c::ess,hc=>by
  obtain⟨x,hx⟩:=h c (hc c (by simp))
  obtain⟨l,hl⟩:=z6Vc h ess fun d hd=>hc d (by simp[hd])
  exact⟨x::l,by rw[List.map_cons,←hx,←hl]⟩
theorem z8wc {α:Type} (f:α→z0a):∀l:List α,(l.map fun x=>[f x]).flatten=l.map f
 |[]=>rfl
 |x::l=>by simp[z8wc f l]
theorem z37b {n:Nat} {cs:List z0a} (h:(GT.arr n (.int .u8)).has cs):∃l:List UInt8,l.length=n∧cs=bys l:=by
 simp only[GT.has] at h
 obtain⟨ess,hn,h1,rfl⟩:=h
 obtain⟨l,rfl⟩:=z6Vc (P:=(GT.int .u8).has) (f:=fun x=>[u8 x]) (fun cs h=>z7Xd h) ess (by simpa only[GT.has] using h1)
 exact⟨l,by simpa using hn,by rw[z8wc];rfl⟩
@[simp] theorem z0ma (g:GT) (c:z0a) (h:g.row=false):g.top [c]=c:=by simp[GT.top,h]

theorem z2Pb {K:Cx} {W:World} {name:String} {k:IntKind} {zs:List Int} {g:Nat} {cs:List z0a} (h:Lib.TabIs K.P W name k zs) (hg:K.P.globalNamed name=some g) (hc:cs=zs.map fun z=> .lit (.int k z)):
  z4b K.toCon (z8l W) W cs g 0:=by
 subst hc
 refine z4b.mk fun i d hd=> ?_
 rw[List.getElem?_map,Option.map_eq_some_iff] at hd
 obtain⟨z,hz,rfl⟩:=hd
 have:=World.var?_cell hg h i
 rw[Nat.zero_add]
 have hcell:W.cell? ⟨g,i,none⟩=some (.int k z):=by rw[this];simp[hz]
 exact⟨z1P hcell,_,hcell,by simp[z9b]⟩
end Go.Abs
end

section
namespace Go.Abs
theorem z7rb {α:Type} {e:GT} {enc:α→List z0a} {P:α→Prop} (he:∀cs,e.has cs→∃a,P a∧cs=enc a) {cs:List z0a} (h:(GT.sl e).has cs):∃l:List α,(∀a∈l,P a)∧cs=[.sl .plain none l.length (l.flatMap enc)]:=by
 obtain⟨ess,h1,rfl,h3⟩:=h
 suffices H:∃l:List α,(∀x∈l,P x)∧l.length=ess.length∧ess.flatten=l.flatMap enc by
  obtain⟨l,k1,k2,k3⟩:=H
  exact⟨l,k1,by rw[k2,k3]⟩
 clear h3
 induction ess with
 |nil=>exact⟨[],by simp,rfl,rfl⟩
 |cons c ess ih=>
  obtain⟨l,k1,k2,k3⟩:=ih fun c hc=>h1 c (by simp[hc])
  obtain⟨x,a0,rfl⟩:=he c (h1 c (by simp))
  refine⟨x::l,fun y hy=> ?_,by simp[k2],by simp[k3]⟩
  rcases List.mem_cons.1 hy with rfl|hy
  ·exact a0
  ·exact k1 y hy
theorem z6hc (l:List Int):(l.flatMap fun x:Int=>[i64 x])=z6Ba l:=by
 induction l with
 |nil=>rfl
 |cons a l ih=>rw[List.flatMap_cons,ih];rfl
theorem z3bd {cs:List z0a} (h:(GT.st [.int .i64,.int .i64,.int .i64,.int .i64,.int .i64,.int .i64,.str,.sl (.int .i64)]).has cs):∃c:Cmd,c.ok∧cs=z13a c none:=by
 simp only[GT.has,GT.hasL] at h
 obtain⟨a1,r1,rfl,h1,a2,r2,rfl,h2,a3,r3,rfl,h3,a4,r4,rfl,h4,a5,r5,rfl,h5,a6,r6,rfl,h6,a7,r7,rfl,h7,a8,r8,rfl,h8,rfl⟩:=h
 obtain⟨k1,x1,y1,rfl⟩:=z9Aa (by simpa only[GT.has] using h1)
 obtain⟨k2,x2,y2,rfl⟩:=z9Aa (by simpa only[GT.has] using h2)
 obtain⟨k3,x3,y3,rfl⟩:=z9Aa (by simpa only[GT.has] using h3)
 obtain⟨k4,x4,y4,rfl⟩:=z9Aa (by simpa only[GT.has] using h4)
 obtain⟨k5,x5,y5,rfl⟩:=z9Aa (by simpa only[GT.has] using h5)
 obtain⟨k6,x6,y6,rfl⟩:=z9Aa (by simpa only[GT.has] using h6)
 obtain⟨s,rfl⟩:=z2yd (by simpa only[GT.has] using h7)
 obtain⟨l,hl,e8⟩:=z7rb (enc:=fun x:Int=>[i64 x]) (P:=z2e) (fun cs hc=>by
  obtain⟨x,x0,x1,rfl⟩:=z9Aa hc
  exact⟨x,⟨x0,x1⟩,rfl⟩) (by simpa only[GT.has] using h8)
 subst e8
 have:(l.flatMap fun x:Int=>[i64 x])=z6Ba l:=z6hc l
 rw[this]
 exact⟨⟨k1,k2,k3,k4,k5,k6,s,l⟩,⟨⟨x1,y1⟩,⟨x2,y2⟩,⟨x3,y3⟩,⟨x4,y4⟩,⟨x5,y5⟩,⟨x6,y6⟩,hl⟩,rfl⟩
def z6Ud:GT:= .st [.int .i64,.int .i64,.int .i64,.int .i64,.int .i64,.int .i64,.str,.sl (.int .i64)]
def z2ae:GT:= .st [.int .i64,.int .i64,.int .i64,.int .i64,.int .i64,.int .i64,.int .i64,.bool,.arr 16 (.int .u8)]
theorem z4pd (cs:List z0a) (h:z2ae.has cs):∃m:z3P,m.ok∧cs=z7Ka m:=by
 simp only[z2ae,GT.has,GT.hasL] at h
 obtain⟨a1,r1,rfl,h1,a2,r2,rfl,h2,a3,r3,rfl,h3,a4,r4,rfl,h4,a5,r5,rfl,h5,a6,r6,rfl,h6,a7,r7,rfl,h7,a8,r8,rfl,h8,a9,r9,rfl,h9,rfl⟩:=h
 obtain⟨k1,x1,y1,rfl⟩:=z9Aa (by simpa only[GT.has] using h1)
 obtain⟨k2,x2,y2,rfl⟩:=z9Aa (by simpa only[GT.has] using h2)
 obtain⟨k3,x3,y3,rfl⟩:=z9Aa (by simpa only[GT.has] using h3)
 obtain⟨k4,x4,y4,rfl⟩:=z9Aa (by simpa only[GT.has] using h4)
 obtain⟨k5,x5,y5,rfl⟩:=z9Aa (by simpa only[GT.has] using h5)
 obtain⟨k6,x6,y6,rfl⟩:=z9Aa (by simpa only[GT.has] using h6)
 obtain⟨k7,x7,y7,rfl⟩:=z9Aa (by simpa only[GT.has] using h7)
 obtain⟨b,rfl⟩:=z28c (by simpa only[GT.has] using h8)
 obtain⟨d,hd,rfl⟩:=z37b (n:=16) (by simpa only[GT.has] using h9)
 exact⟨⟨k1,k2,k3,k4,k5,k6,k7,b,d⟩,⟨⟨x1,y1⟩,⟨x2,y2⟩,⟨x3,y3⟩,⟨x4,y4⟩,⟨x5,y5⟩,⟨x6,y6⟩,⟨x7,y7⟩,hd⟩,by simp[z7Ka]⟩
def z85d:GT:= .st [.int .i64,.int .i64,.int .i64,.int .i64,z6Ud,.arr 16 (.int .u8),.sl z2ae,.sl (.int .i64)]
theorem z4Sc {cs:List z0a} (h:(GT.sl (.int .i64)).has cs):∃l:List Int,(∀x∈l,z2e x)∧cs=[.sl .plain none l.length (z6Ba l)]:=by
 obtain⟨l,hl,e8⟩:=z7rb (enc:=fun x:Int=>[i64 x]) (P:=z2e) (fun cs hc=>by
  obtain⟨x,x0,x1,rfl⟩:=z9Aa hc
  exact⟨x,⟨x0,x1⟩,rfl⟩) h
 subst e8
 have:(l.flatMap fun x:Int=>[i64 x])=z6Ba l:=z6hc l
 rw[this]
 exact⟨l,hl,rfl⟩
theorem z4Lc {cs:List z0a} (h:z85d.has cs):∃x:z2n,x.ok∧cs=z0va none none none x:=by
 rw[z85d,GT.has] at h
 simp only[GT.hasL] at h
 obtain⟨a1,r1,rfl,h1,a2,r2,rfl,h2,a3,r3,rfl,h3,a4,r4,rfl,h4,a5,r5,rfl,h5,a6,r6,rfl,h6,a7,r7,rfl,h7,a8,r8,rfl,h8,rfl⟩:=h
 obtain⟨k1,x1,y1,rfl⟩:=z9Aa h1
 obtain⟨k2,x2,y2,rfl⟩:=z9Aa h2
 obtain⟨k3,x3,y3,rfl⟩:=z9Aa h3
 obtain⟨k4,x4,y4,rfl⟩:=z9Aa h4
 obtain⟨c,hc,rfl⟩:=z3bd h5
 obtain⟨d,hd,rfl⟩:=z37b (n:=16) h6
 obtain⟨m,hm,rfl⟩:=z7rb (enc:=z7Ka) z4pd h7
 obtain⟨g,hg,rfl⟩:=z4Sc h8
 exact⟨⟨k1,k2,k3,k4,c,d,m,g⟩,⟨⟨x1,y1⟩,⟨x2,y2⟩,⟨x3,y3⟩,⟨x4,y4⟩,hc,hd,hm,hg⟩,by simp[z0va,z5za]⟩
theorem z0td (l:List UInt8):wt (st l)=l.length+1:=by simp[st,wt]
theorem z8Wc:∀(cs:List z0a),(∀c∈cs,1≤wt c)→cs.length≤wtL cs
 |[],_=>Nat.zero_le _
 |c::cs,h=>by
  have:=z8Wc cs (fun d hd=>h d (by simp[hd]))
  have:=h c (by simp)
  rw[wtL,List.length_cons];omega
theorem z6wc (l:List Int):l.length≤wtL (z6Ba l):=by
 have:=z8Wc (z6Ba l) (fun c hc=>by obtain⟨x,_,rfl⟩:=List.mem_map.1 hc;exact Nat.le_refl 1)
 simpa[z6Ba] using this
theorem z5Dd (l:List z3P):l.length≤wtL (z5za l):=by
 induction l with
 |nil=>exact Nat.zero_le _
 |cons a l ih=>
  have e:z5za (a::l)=z7Ka a++z5za l:=rfl
  have:1≤wtL (z7Ka a):=by
   have e2:z7Ka a=i64 a.id::(z7Ka a).tail:=rfl
   rw[e2,wtL,show wt (i64 a.id)=1 from rfl];omega
  rw[e,z0k,List.length_cons];omega
theorem z8id (x:z2n):wE x≤wtL (z0va none none none x):=by
 have h1:=z6wc x.cmd.list
 have h2:=z5Dd x.made
 have h3:=z6wc x.gone
 have e:z0va none none none x=[i64 x.time,i64 x.kind,i64 x.req,i64 x.mode]++([i64 x.cmd.kind,i64 x.cmd.key,i64 x.cmd.other,i64 x.cmd.type,i64 x.cmd.uses,i64 x.cmd.life]++([st x.cmd.data,.sl .plain none x.cmd.list.length (z6Ba x.cmd.list)]++(bys x.dig++[.sl .plain none x.made.length (z5za x.made),.sl .plain none x.gone.length (z6Ba x.gone)]))):=by simp[z0va,z13a]
 rw[e,z0k,z0k,z0k,z0k]
 have w1:wtL [st x.cmd.data,.sl .plain none x.cmd.list.length (z6Ba x.cmd.list)]=x.cmd.data.length+1+(wtL (z6Ba x.cmd.list)+1):=by
  rw[wtL,wtL,wtL,z0td,show wt (.sl .plain none x.cmd.list.length (z6Ba x.cmd.list))=wtL (z6Ba x.cmd.list)+1 by simp only[wt]]
 have w2:wtL [.sl .plain none x.made.length (z5za x.made),.sl .plain none x.gone.length (z6Ba x.gone)]=wtL (z5za x.made)+1+(wtL (z6Ba x.gone)+1):=by
  rw[wtL,wtL,wtL,show wt (.sl .plain none x.made.length (z5za x.made))=wtL (z5za x.made)+1 by simp only[wt],show wt (.sl .plain none x.gone.length (z6Ba x.gone))=wtL (z6Ba x.gone)+1 by simp only[wt]]
 rw[w1,w2]
 unfold wE
 have:=Nat.div_le_self x.cmd.data.length 100
 omega
theorem z2vd (l:List z2n):z4ma l≤wtL (z0sa l):=by
 induction l with
 |nil=>exact Nat.zero_le _
 |cons a l ih=>
  have e:z0sa (a::l)=z0va none none none a++z0sa l:=rfl
  have e2:z4ma (a::l)=wE a+z4ma l:=by simp[z4ma]
  have:=z8id a
  rw[e,z0k,e2];omega
theorem z4Ad (l:List UInt8):l.length≤wtL (bys l):=by
 have:=z8Wc (bys l) (fun c hc=>by obtain⟨x,_,rfl⟩:=List.mem_map.1 hc;exact Nat.le_refl 1)
 simpa[bys] using this
theorem z3xd {cs:List z0a} (h:(GT.sl (.arr 16 (.int .u8))).has cs):∃l:List (List UInt8),z9n l∧cs=[z3Ea none l]:=by
 obtain⟨l,hl,rfl⟩:=z7rb (enc:=bys) (P:=fun d:List UInt8=>d.length=16) (fun cs hc=>by obtain⟨d,hd,rfl⟩:=z37b (n:=16) hc;exact⟨d,hd,rfl⟩) h
 exact⟨l,hl,by rw[z3Ea,dgs,bys,List.map_flatten,List.flatMap_def];rfl⟩
def z88d:GT:= .st [.st [.int .i64,.sl (.arr 16 (.int .u8))],.sl z85d]
theorem z7kd {cs:List z0a} (h:z88d.has cs):∃(s:Int) (r:List (List UInt8)) (l:List z2n),inI s∧z9n r∧okL l∧cs=[i64 s,z3Ea none r,z5ta none l]:=by
 rw[z88d,GT.has] at h
 simp only[GT.hasL] at h
 obtain⟨a1,r1,rfl,h1,a2,r2,rfl,h2,rfl⟩:=h
 rw[GT.has] at h1
 simp only[GT.hasL] at h1
 obtain⟨b1,q1,rfl,g1,b2,q2,rfl,g2,rfl⟩:=h1
 obtain⟨s,s0,s1,rfl⟩:=z9Aa g1
 obtain⟨r,hr,rfl⟩:=z3xd g2
 obtain⟨l,hl,rfl⟩:=z7rb (enc:=z0va none none none) (P:=z2n.ok) (fun cs hc=>z4Lc hc) h2
 exact⟨s,r,l,⟨s0,s1⟩,hr,hl,rfl⟩
theorem z0Pd {s:Int} {r:List (List UInt8)} {l:List z2n} {x:z2n} (hs:inI s) (hr:z9n r) (hl:okL l) (hx:x.ok) (hb:wt (z5Yc s none none r l)+wt (.agg (z0va none none none x))≤1048576):inL s r l x:=by
 rw[show wt (.agg (z0va none none none x))=wtL (z0va none none none x) by simp only[wt],show wt (z5Yc s none none r l)=wt (i64 s)+(wtL (bys (dgs r))+1+(wtL (z0sa l)+1+0)) by simp only[z5Yc,z3Ea,z5ta,wt,wtL]] at hb
 have h1:=z2vd l
 have h2:=z8id x
 have h3:=z4Ad (dgs r)
 rw[z3za hr] at h3
 exact⟨hs,hr,by omega,hl,by omega,hx,by omega⟩
end Go.Abs
end

section
namespace Go.Abs
theorem z6Wc (as:List z0a) (h:z1Gd [z88d,.int .i64,.int .i64,.int .i64,z85d] as) (hb:wtL as≤1048576):z0Mc.pre as:=by
 simp only[z1Gd] at h
 obtain⟨c0,_,rfl,h0,c1,_,rfl,h1,c2,_,rfl,h2,c3,_,rfl,h3,c4,_,rfl,h4,rfl⟩:=h
 obtain⟨s,r,l,hs,hr,hl,rfl⟩:=z7kd h0
 obtain⟨n,n0,n1,rfl⟩:=z9Aa h1
 obtain⟨a,a0,a1,rfl⟩:=z9Aa h2
 obtain⟨b,b0,b1,rfl⟩:=z9Aa h3
 obtain⟨x,hx,rfl⟩:=z4Lc h4
 exact⟨s,r,l,x,n,a,b,z0Pd hs hr hl hx (by
  change wt (z5Yc s none none r l)+(wt (i64 n)+(wt (i64 a)+(wt (i64 b)+(wt (.agg (z0va none none none x))+0))))≤1048576 at hb
  omega),⟨n0,n1⟩,⟨a0,a1⟩,⟨b0,b1⟩,rfl⟩
end Go.Abs
end
