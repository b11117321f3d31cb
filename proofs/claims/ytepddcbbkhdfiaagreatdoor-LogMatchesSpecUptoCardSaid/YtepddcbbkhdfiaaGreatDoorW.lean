/- Lemmas: an abstract interpreter, and what the functions compute. -/
import Derived.Test.YtepddcbbkhdfiaaGreatDoorG
import Derived.Test.YtepddcbbkhdfiaaGreatDoorJ
import Derived.Test.YtepddcbbkhdfiaaGreatDoorQ
import Derived.Test.YtepddcbbkhdfiaaGreatDoorT
import Derived.Test.YtepddcbbkhdfiaaGreatDoorS
import Derived.Test.YtepddcbbkhdfiaaGreatDoorH
import Derived.Test.YtepddcbbkhdfiaaGreatDoorI
import Derived.Test.YtepddcbbkhdfiaaGreatDoorN
import Derived.Test.YtepddcbbkhdfiaaGreatDoorU
import Derived.Test.YtepddcbbkhdfiaaGreatDoorR
set_option linter.unusedSimpArgs false
set_option linter.unusedVariables false
set_option linter.unusedSectionVars false
section
namespace Go.Abs
set_option maxRecDepth 100000
def z3Ha:z1c:=
 Yd 22 (Yy [1,3,4,5]) (YY [1,3])
def z8Sa:z1c:=
 Yq (.block 1 (.region [1,3,4,5] [.norm [1]] [YM 25 3,Ym 26 4,Ym 27 5,Yi 28 1 26 27,Yj 29 28,Yk 30 30 29,YN 31 1 1 25 30,YM 3 31])) (Yu [1,3,4,5] [Ym 23 5,YB 24 .add 23 1,Ym 5 24])
def z7Ga:z1c:=
 Yq (Yr [1,3,4,5,22] [Ym 19 5,Ym 20 4,Yn 21 20,Yb 22 .lss 19 21] z3Ha) z8Sa
def z7pb:z1c:=
 .block 0 (.loop z7Ga)
def z0Ua:z1c:=
 YR [2] [.norm [1]] [YM 37 3,Yf 38 7 1,Yl 39 1 38,Yk 40 40 39,YN 41 1 1 37 40,YM 2 41] .ret
def z6Sa:z1c:=
 YR [1,3] [.norm [1]] [YM 32 3,Yf 33 6 1,Yl 34 1 33,Yk 35 29 34,YN 36 1 1 32 35,YM 3 36] z0Ua
def z2Ra:z1c:=
 Yq (Yr [1,3,4,5] [Yc 5 0] z7pb) z6Sa
def z1Ta:z1c:=
 YR [1,3,4] [.norm [1]] [Yf 6 0 1,Yl 7 1 6,Yf 8 1 1,Yl 9 1 8,Yf 10 2 1,Yl 11 1 10,Yf 12 3 1,Yl 13 1 12,Yf 14 4 1,Yl 15 1 14,Yf 16 5 1,Yl 17 1 16,Yo 18 (.buildSl 1 6 [i64 0,i64 0,i64 0,i64 0,i64 0,i64 0] [(0,1,.s 7),(1,1,.s 9),(2,1,.s 11),(3,1,.s 13),(4,1,.s 15),(5,1,.s 17)]),YM 4 18] z2Ra
def z3Ta:z1c:=
 Yr [1,3] [Yv 3 1] z1Ta
def z4va:z1ka:=
 {n:=1,wr:=[],res:=[.t 2],body:=YR [1] [.norm [1]] [Yx 1 1 8 0,Yv 2 1] z3Ta}
def z0sa:z1c:=
 YR [4] [.norm [2,3]] [Yf 5 0 2,Yl 6 2 5,Yf 7 0 3,Yl 8 3 7,Yb 9 .eql 6 8,Ym 10 9,YG 10 (Yf 11 1 2),YG 10 (Yl 12 2 11),YG 10 (Yf 13 1 3),YG 10 (Yl 14 3 13),YG 10 (Yb 15 .eql 12 14),Yp 16 10 15,Ym 17 16,YG 17 (Yf 18 2 2),YG 17 (Yl 19 2 18),YG 17 (Yf 20 2 3),YG 17 (Yl 21 3 20),YG 17 (Yb 22 .eql 19 21),Yp 23 17 22,Ym 24 23,YG 24 (Yf 25 3 2),YG 24 (Yl 26 2 25),YG 24 (Yf 27 3 3),YG 24 (Yl 28 3 27),YG 24 (Yb 29 .eql 26 28),Yp 30 24 29,Ym 31 30,YG 31 (Yf 32 4 2),YG 31 (Yl 33 2 32),YG 31 (Yf 34 4 3),YG 31 (Yl 35 3 34),YG 31 (Yb 36 .eql 33 35),Yp 37 31 36,Ym 38 37,YG 38 (Yf 39 5 2),YG 38 (Yl 40 2 39),YG 38 (Yf 41 5 3),YG 38 (Yl 42 3 41),YG 38 (Yb 43 .eql 40 42),Yp 44 38 43,Ym 45 44,YG 45 (Yf 46 6 2),YG 45 (Yl 47 2 46),YG 45 (Yf 48 6 3),YG 45 (Yl 49 3 48),YG 45 (Yb 50 .eql 47 49),Yp 51 45 50,Ym 52 51,YG 52 (Yf 53 7 2),YG 52 (Yl 54 2 53),YG 52 (Yf 55 7 3),YG 52 (Yl 56 3 55),YG 52 (YK 57 54 54 56),Yp 58 52 57,Ym 4 58] .ret
def z1ya:z1ka:=
 {n:=2,wr:=[],res:=[.t 4],body:=YR [2,3] [.norm [2,3]] [Yx 2 2 8 0,Yx 3 3 8 1,Yw 4 false] z0sa}
end Go.Abs
end

section
namespace Go.Abs
end Go.Abs
end

section
namespace Go.Abs
@[simp] theorem z45d (c:Cmd) (nl:Option Bool):(z49a c nl).length=8:=rfl
theorem z5Sc {c:Cmd} (h:c.ok):∀x∈[c.kind,c.key,c.other,c.type,c.uses,c.life],z2e x:=by
 obtain⟨h1,h2,h3,h4,h5,h6,_⟩:=h
 intro x hx
 simp only[List.mem_cons,List.not_mem_nil,or_false] at hx
 rcases hx with rfl|rfl|rfl|rfl|rfl|rfl<;>assumption
set_option maxHeartbeats 4000000 in
theorem z9Gd (E:Env) (h7:E.G 7=z4tb) (h12:E.G 12=z2L) (h39:E.G 39=z1Xa) (h129:E.G 129=z8Na):∀ds,z2Mb.pre ds→ds.length=z8Ba.n∧awp E z8Ba.body (z6va z8Ba.res (z2Mb.post ds)) (z4H z8Ba.wr ds):=by
 rintro _ ⟨c,nl,hc,rfl⟩
 rw[z6Gb]
 obtain⟨k1,k2,k3,k4,k5,k6,dt,ls⟩:=c
 obtain⟨ho,hd,hll⟩:=hc
 simp only at hd hll
 simp(maxSteps:=1000000) (disch:=first|omega|simp;done|simp;omega) [z7G,z8pa,z7pa,z8Ba,z5eb,z8db,z49a]
 refine z1g fun Q0 hQ0=> ?_
 simp(maxSteps:=1000000) (disch:=first|omega|simp;done|simp;omega) [z7G,z8pa,z7pa,z6eb]
 have h6:=z5Sc ho
 obtain⟨L,hL⟩:∃L:List Int,L=[k1,k2,k3,k4,k5,k6]:=⟨_,rfl⟩
 have hLl:L.length=6:=by rw[hL];rfl
 rw[show [i64 k1,i64 k2,i64 k3,i64 k4,i64 k5,i64 k6]=z1Aa L by rw[hL];rfl]
 rw[←hL] at h6
 refine z2v (fun i:Nat=>⟨[(0,.agg [i64 k1,i64 k2,i64 k3,i64 k4,i64 k5,i64 k6,st dt,.sl .plain nl ls.length (z1Aa ls)])],[(1,.bp 1 0),(3,.sl (.own 1) none ((L.take i).flatMap z4r).length (bys ((L.take i).flatMap z4r))),(18,.agg (z1Aa L)),(19,i64 i)],[(1,some [i64 k1,i64 k2,i64 k3,i64 k4,i64 k5,i64 k6,st dt,.sl .plain nl ls.length (z1Aa ls)])]⟩) (fun i=>6-i) (· ≤6) 0 (by simp) (by simp) fun i hi=> ?_
 refine z1g fun Q1 hQ1=> ?_
 by_cases h1:i<6
 ·have h1':i<L.length:=by omega
  have hs:=z7za L z4r 0 h1'
  rw[show L.getD i 0=atI L i from rfl] at hs
  have ha:=h6 _ (z2Ob h1')
  have g2:=z7Aa ha
  have g3:=z2ta (l:=L.take i) fun x hx=>h6 x (List.mem_of_mem_take hx)
  have g4:(L.take i).length≤6:=by rw[List.length_take];omega
  generalize hF:(L.take i).flatMap z4r=F at*
  generalize hX:atI L i=x at*
  have hg:∀h:i<(z1Aa L).length,(z1Aa L)[i]=i64 x:=fun h=>by rw[←hX];simp[z1Aa,atI,List.getD,List.getElem?_eq_getElem h1']
  simp(maxSteps:=1000000) (disch:=first|omega|simp;done|simp;omega) [z7G,z8pa,z7pa,z0Ra,z1Ra,z6cb,z0eb,kT,kF,dT,dF,h1,hg,hLl,h12,z1bc ha.1 ha.2,hQ1,-List.length_flatMap]
  exact⟨⟨by omega,by omega⟩,by omega,i+1,by omega,by omega,⟨by rw[hs,List.length_append],hs.symm⟩,by omega⟩
 ·obtain rfl:i=6:=by omega
  have hT:L.take 6=L:=by rw[←hLl,List.take_length]
  have h6l:=z2ta h6
  have e1:=z7Aa (n:=(dt.length:Int)) (by constructor<;>omega)
  have e2:=z7Aa (n:=(ls.length:Int)) (by constructor<;>omega)
  have e3:=z2ta (l:=ls) ho.2.2.2.2.2.2
  have hip:z1Xa.pre [.sl .plain nl ls.length (z1Aa ls)]=True:=z8Vb hll ho.2.2.2.2.2.2 rfl
  have hiq:z1Xa.post [.sl .plain nl ls.length (z1Aa ls)]= .sl (.own 1) (some false) (z6y ls).length (bys (z6y ls)):=by rw[z1Xa,z1qb];rfl
  have hcp:z8Na.pre [.sl .plain (some false) 3 [.sl (.own 1) none (L.flatMap z4r).length (bys (L.flatMap z4r)),.sl (.own 1) (some false) (z2X dt).length (bys (z2X dt)),.sl (.own 1) (some false) (z6y ls).length (bys (z6y ls))]]=True:=
   z0Mc (ps:=[(none,L.flatMap z4r),(some false,z2X dt),(some false,z6y ls)]) (by simp only[z8md,List.map_cons,List.map_nil,List.sum_cons,List.sum_nil,z2X,z6y,List.length_append];omega) (by simp) rfl
  have hcq:z8Na.post [.sl .plain (some false) 3 [.sl (.own 1) none (L.flatMap z4r).length (bys (L.flatMap z4r)),.sl (.own 1) (some false) (z2X dt).length (bys (z2X dt)),.sl (.own 1) (some false) (z6y ls).length (bys (z6y ls))]]= .sl (.own 1) none (L.flatMap z4r++(z2X dt++z6y ls)).length (bys (L.flatMap z4r++(z2X dt++z6y ls))):=by
   have:=z7uc (some false) 3 [(none,L.flatMap z4r),(some false,z2X dt),(some false,z6y ls)]
   simpa[bls,-List.length_append,-List.length_flatMap] using this
  have hE:z38b ⟨k1,k2,k3,k4,k5,k6,dt,ls⟩=L.flatMap z4r++(z2X dt++z6y ls):=by rw[hL];rfl
  rw[hE] at hQ0
  simp(maxSteps:=1000000) (disch:=first|omega|simp;done|simp;omega) [z7G,z8pa,z7pa,z0Ra,z1Ra,kT,kF,dT,dF,hQ1,hQ0,hT,z2gb,h7,z9Gb,h39,hip,hiq,h129,hcp,hcq,-z8pa,-List.length_append,-List.length_flatMap]
end Go.Abs
end

section
namespace Go.Abs
set_option maxHeartbeats 4000000 in
theorem z4Fd (E:Env) (h29:E.G 29=z4kb) (h30:E.G 30=z72b) (h40:E.G 40=z4Xa):∀ds,z2Mb.pre ds→ds.length=z4va.n∧awp E z4va.body (z6va z4va.res (z2Mb.post ds)) (z4H z4va.wr ds):=by
 rintro _ ⟨c,nl,hc,rfl⟩
 rw[z6Gb]
 obtain⟨k1,k2,k3,k4,k5,k6,dt,ls⟩:=c
 obtain⟨ho,hd,hll⟩:=hc
 simp only at hd hll
 simp(maxSteps:=1000000) (disch:=first|omega|simp;done|simp;omega) [z7G,z8pa,z7pa,z4va,z3Ta,z1Ta,z49a]
 refine z1g fun Q0 hQ0=> ?_
 simp(maxSteps:=1000000) (disch:=first|omega|simp;done|simp;omega) [z7G,z8pa,z7pa,z2Ra]
 have h6:=z5Sc ho
 obtain⟨L,hL⟩:∃L:List Int,L=[k1,k2,k3,k4,k5,k6]:=⟨_,rfl⟩
 have hLl:L.length=6:=by rw[hL];rfl
 rw[show [i64 k1,i64 k2,i64 k3,i64 k4,i64 k5,i64 k6]=z1Aa L by rw[hL];rfl]
 rw[←hL] at h6
 refine z2v (fun i:Nat=>⟨[(0,.agg [i64 k1,i64 k2,i64 k3,i64 k4,i64 k5,i64 k6,st dt,.sl .plain nl ls.length (z1Aa ls)])],[(1,.bp 1 0),(3,.sl (.own 1) none ((L.take i).flatMap z4r).length (bys ((L.take i).flatMap z4r))),(4,.sl (.own 1) (some false) 6 (z1Aa L)),(5,i64 i)],[(1,some [i64 k1,i64 k2,i64 k3,i64 k4,i64 k5,i64 k6,st dt,.sl .plain nl ls.length (z1Aa ls)])]⟩) (fun i=>6-i) (· ≤6) 0 (by simp) (by simp) fun i hi=> ?_
 refine z1g fun Q1 hQ1=> ?_
 by_cases h1:i<6
 ·have h1':i<L.length:=by omega
  have hs:=z7za L z4r 0 h1'
  rw[show L.getD i 0=atI L i from rfl] at hs
  have ha:=h6 _ (z2Ob h1')
  have g2:=z7Aa ha
  have g3:=z2ta (l:=L.take i) fun x hx=>h6 x (List.mem_of_mem_take hx)
  have g4:(L.take i).length≤6:=by rw[List.length_take];omega
  generalize hF:(L.take i).flatMap z4r=F at*
  generalize hX:atI L i=x at*
  have hg:hdA (z1Aa (L.drop i))=i64 x:=by rw[←hX];exact z3lb h1'
  simp(maxSteps:=1000000) (disch:=first|omega|simp;done|simp;omega) [z7G,z8pa,z7pa,z7Ga,z3Ha,z8Sa,kT,kF,dT,dF,h1,hg,hLl,h30,z5Jb ha.1 ha.2,hQ1,-List.length_flatMap]
  exact⟨by omega,by omega,by omega,i+1,by omega,by omega,⟨by rw[hs,List.length_append],hs.symm⟩,by omega⟩
 ·obtain rfl:i=6:=by omega
  have hT:L.take 6=L:=by rw[←hLl,List.take_length]
  have h6l:=z2ta h6
  have e1:=z7Aa (n:=(dt.length:Int)) (by constructor<;>omega)
  have e2:=z7Aa (n:=(ls.length:Int)) (by constructor<;>omega)
  have e3:=z2ta (l:=ls) ho.2.2.2.2.2.2
  have hip:z4Xa.pre [.sl .plain nl ls.length (z1Aa ls)]=True:=z8Vb hll ho.2.2.2.2.2.2 rfl
  have hiq:z4Xa.post [.sl .plain nl ls.length (z1Aa ls)]= .sl (.own 1) none (z6y ls).length (bys (z6y ls)):=by rw[z4Xa,z1qb];rfl
  have hE:z38b ⟨k1,k2,k3,k4,k5,k6,dt,ls⟩=L.flatMap z4r++(z2X dt++z6y ls):=by rw[hL];rfl
  rw[hE] at hQ0
  simp(maxSteps:=1000000) (disch:=first|omega|simp;done|simp;omega) [z7G,z8pa,z7pa,z7Ga,z3Ha,kT,kF,dT,dF,hQ1,hQ0,hT,z6Sa,z0Ua,h29,z4Pb,h40,hip,hiq,-z8pa,-List.length_append,-List.length_flatMap]
  have e4:(z2X dt).length=(z4r dt.length).length+dt.length:=by rw[z2X,List.length_append]
  have e5:(z6y ls).length=(z4r ls.length).length+(ls.flatMap z4r).length:=by rw[z6y,List.length_append]
  refine⟨by omega,by simp only[List.length_append] at*;omega,by simp only[List.length_append];omega,by simp only[z3Oa]⟩
  --, List.length_append] at *; omega, by simp only [List.length_append]; omega, by simp only [bys_append]⟩
end Go.Abs
end

section
namespace Go.Abs
set_option maxHeartbeats 8000000 in
theorem z3ad (E:Env) (h54:E.G 54=z9Ta):∀ds,z4jb.pre ds→ds.length=z1ya.n∧awp E z1ya.body (z6va z1ya.res (z4jb.post ds)) (z4H z1ya.wr ds):=by
 rintro _ ⟨c,d,nl,nl',hc,hd,rfl⟩
 rw[z8bb]
 obtain⟨k1,k2,k3,k4,k5,k6,dt,ls⟩:=c
 obtain⟨j1,j2,j3,j4,j5,j6,dt',ls'⟩:=d
 have hll:=hc.2.2
 simp only at hll
 simp(maxSteps:=1000000) (disch:=first|omega|simp;done|simp;omega) [z7G,z8pa,z7pa,z1ya,z49a]
 refine z1g fun Q0 hQ0=> ?_
 simp only[z7Hb] at hQ0
 cases c1:k1==j1
 ·rw[c1] at hQ0
  simp(maxSteps:=1000000) (disch:=first|omega|simp;done|simp;omega) [z7G,z8pa,z7pa,z0sa,c1,hQ0]
 rw[c1] at hQ0
 cases c2:k2==j2
 ·rw[c2] at hQ0
  simp(maxSteps:=1000000) (disch:=first|omega|simp;done|simp;omega) [z7G,z8pa,z7pa,z0sa,c1,c2,hQ0]
 rw[c2] at hQ0
 cases c3:k3==j3
 ·rw[c3] at hQ0
  simp(maxSteps:=1000000) (disch:=first|omega|simp;done|simp;omega) [z7G,z8pa,z7pa,z0sa,c1,c2,c3,hQ0]
 rw[c3] at hQ0
 cases c4:k4==j4
 ·rw[c4] at hQ0
  simp(maxSteps:=1000000) (disch:=first|omega|simp;done|simp;omega) [z7G,z8pa,z7pa,z0sa,c1,c2,c3,c4,hQ0]
 rw[c4] at hQ0
 cases c5:k5==j5
 ·rw[c5] at hQ0
  simp(maxSteps:=1000000) (disch:=first|omega|simp;done|simp;omega) [z7G,z8pa,z7pa,z0sa,c1,c2,c3,c4,c5,hQ0]
 rw[c5] at hQ0
 cases c6:k6==j6
 ·rw[c6] at hQ0
  simp(maxSteps:=1000000) (disch:=first|omega|simp;done|simp;omega) [z7G,z8pa,z7pa,z0sa,c1,c2,c3,c4,c5,c6,hQ0]
 rw[c6] at hQ0
 cases c7:dt==dt'
 ·rw[c7] at hQ0
  have d7:(dt=dt')=False:=by simpa using c7
  simp(maxSteps:=1000000) (disch:=first|omega|simp;done|simp;omega) [z7G,z8pa,z7pa,z0sa,c1,c2,c3,c4,c5,c6,d7,hQ0]
 rw[c7] at hQ0
 have d7:(dt=dt')=True:=by simpa using c7
 simp(maxSteps:=1000000) (disch:=first|omega|simp;done|simp;omega) [z7G,z8pa,z7pa,z0sa,c1,c2,c3,c4,c5,c6,d7,h54,z02b,hQ0]
end Go.Abs
end

section
namespace Go.Abs
theorem z1Qc (E:Env):∀ds,z9Ta.pre ds→ds.length=z1ua.n∧awp E z1ua.body (z6va z1ua.res (z9Ta.post ds)) (z4H z1ua.wr ds):=by
 rintro _ ⟨nl,nl',a,b,ha,rfl⟩
 simp(maxSteps:=1000000) (disch:=first|omega|simp;done|simp;omega) [z7G,z8pa,z7pa,z1ua]
 rw[z4h]
 refine⟨by simp,fun h=> ?_,fun h=> ?_⟩<;>simp at h
 ·have:(a==b)=false:=by simpa using fun e:a=b=>h (by rw[e])
  simp(maxSteps:=1000000) (disch:=first|omega|simp;done|simp;omega) [z7G,z8pa,z7pa,z9Ta,this]
 simp(maxSteps:=1000000) (disch:=first|omega|simp;done|simp;omega) [z7G,z8pa,z7pa,z1Pa]
 have hl:a.length=b.length:=by omega
 refine z1g fun Q0 hQ0=> ?_
 refine z2v (fun i:Nat=>⟨[(0,.sl .plain nl a.length (z1Aa a)),(1,.sl .plain nl' b.length (z1Aa b))],[(5,i64 i)],[]⟩)
  (fun i=>a.length-i) (fun i=>i≤a.length∧a.take i=b.take i) 0 rfl (by simp) fun i hi=> ?_
 obtain⟨hi,he⟩:=hi
 refine z1g fun Q1 hQ1=> ?_
 simp(maxSteps:=1000000) (disch:=first|omega|simp;done|simp;omega) [z7G,z8pa,z7pa,z3Pa]
 rw[z4h]
 refine⟨by simp,fun h1=> ?_,fun h1=> ?_⟩<;>simp at h1
 ·have h1':i<a.length:=by omega
  simp(maxSteps:=1000000) (disch:=first|omega|simp;done|simp;omega) [z7G,z8pa,z7pa,z0Pa,z3lb]
  refine⟨by omega,by omega,by omega,by omega,?_⟩
  rw[z4h]
  refine⟨by simp,fun h2=> ?_,fun h2=> ?_⟩<;>simp at h2
  ·have:(a==b)=false:=by simpa using fun e:a=b=>h2 (by rw[e])
   simp(maxSteps:=1000000) (disch:=first|omega|simp;done|simp;omega) [z7G,z8pa,z7pa,hQ1,hQ0,z9Ta,this]
  ·simp(maxSteps:=1000000) (disch:=first|omega|simp;done|simp;omega) [z7G,z8pa,z7pa,hQ1]
   refine⟨i+1,by omega,⟨by omega,?_⟩,by simp⟩
   have h3:i<b.length:=by omega
   have h4:a[i]=b[i]:=by simpa[atI,List.getD,List.getElem?_eq_getElem h1',List.getElem?_eq_getElem h3] using h2
   rw[List.take_succ_eq_append_getElem h1',List.take_succ_eq_append_getElem h3,he,h4]
 ·have e:i=a.length:=by omega
  subst e
  have:(a==b)=true:=by
   rw[List.take_length,hl,List.take_length] at he
   simpa using he
  simp(maxSteps:=1000000) (disch:=first|omega|simp;done|simp;omega) [z7G,z8pa,z7pa,hQ1,hQ0,z2Pa,z9Ta,this]
end Go.Abs
end

section
namespace Go.Abs
theorem z5Xd (E:Env):∀ds,z9Ta.pre ds→ds.length=z5Ca.n∧awp E z5Ca.body (z6va z5Ca.res (z9Ta.post ds)) (z4H z5Ca.wr ds):=by
 rintro _ ⟨nl,nl',a,b,ha,rfl⟩
 by_cases h:a.length=b.length
 rotate_left
 ·have:(a==b)=false:=by simpa using fun e:a=b=>h (by rw[e])
  have h':¬((a.length:Int)=b.length):=by omega
  simp(maxSteps:=1000000) (disch:=first|omega|simp;done|simp;omega) [z7G,z8pa,z7pa,z5Ca,z41a,z81a,h',kT,kF,z9Ta,this]
 have h':((a.length:Int)=b.length):=by omega
 simp(maxSteps:=1000000) (disch:=first|omega|simp;done|simp;omega) [z7G,z8pa,z7pa,z5Ca,z41a,z81a,z1ob,h',kT,kF]
 refine z1g fun Q0 hQ0=> ?_
 simp(maxSteps:=1000000) (disch:=first|omega|simp;done|simp;omega) [z7G,z8pa,z7pa,z0qb]
 refine z2v (fun i:Nat=>⟨[(0,.sl .plain nl a.length (z1Aa a)),(1,.sl .plain nl' b.length (z1Aa b))],[(12,i64 a.length),(13,i64 i)],[]⟩)
  (fun i=>a.length-i) (fun i=>i≤a.length∧a.take i=b.take i) 0 (by simp[h']) (by simp) fun i hi=> ?_
 obtain⟨hi,he⟩:=hi
 refine z1g fun Q1 hQ1=> ?_
 by_cases h1':i<a.length
 ·have h3:i<b.length:=by omega
  by_cases h2:atI a i=atI b i
  ·simp(maxSteps:=1000000) (disch:=first|omega|simp;done|simp;omega) [z7G,z8pa,z7pa,z7Oa,z8Oa,z21a,z61a,z13a,kT,kF,dT,dF,z3lb,h1',h2,hQ1]
   have h4:a[i]=b[i]:=by simpa[atI,List.getD,List.getElem?_eq_getElem h1',List.getElem?_eq_getElem h3] using h2
   exact⟨by omega,by omega,by omega,i+1,by omega,⟨by omega,by rw[List.take_succ_eq_append_getElem h1',List.take_succ_eq_append_getElem h3,he,h4]⟩,by omega⟩
  ·have:(a==b)=false:=by simpa using fun e:a=b=>h2 (by rw[e])
   simp(maxSteps:=1000000) (disch:=first|omega|simp;done|simp;omega) [z7G,z8pa,z7pa,z7Oa,z8Oa,z21a,z61a,z13a,kT,kF,dT,dF,z3lb,h1',h2,hQ1,hQ0,z9Ta,this]
   omega
 ·have e:i=a.length:=by omega
  subst e
  have:(a==b)=true:=by
   rw[List.take_length,h,List.take_length] at he
   simpa using he
  simp(maxSteps:=1000000) (disch:=first|omega|simp;done|simp;omega) [z7G,z8pa,z7pa,z7Oa,z8Oa,kT,kF,dT,dF,hQ1,hQ0,z2nb,z9Ta,this]
end Go.Abs
end

section
namespace Go.Abs
theorem z5Ad (E:Env) (h0:E.G 0=z2yb) (h1:E.G 1=z5zc) (h2:E.G 2=z8Rc):∀ds,z7ac.pre ds→ds.length=z5bb.n∧awp E z5bb.body (z6va z5bb.res (z7ac.post ds)) (z4H z5bb.wr ds):=by
 rintro _ ⟨nl,l,hl,rfl⟩
 have hb:(z3j.init.add l).b.length=64:=by rw[z7Mb,z4Vb]
 have hn:(z3j.init.add l).n.toNat<1099511627776:=by rw[z8Xb _ _ (by show 0+l.length<_;omega)];show 0+l.length<_;omega
 simp(disch:=first|omega|(simp;omega)) [z5bb,h0,h1,h2,z2yb,z5zc,z8Rc,z7ac,z3j.v,z3j.of_scs _ z4Vb,z3j.of_scs _ hb,z9pa]
 have hs:(z3j.init.add l).sum.length=32:=z1p _ 32
 refine⟨⟨_,z4Vb,rfl⟩,⟨_,hb,hn,rfl⟩,hs,?_⟩
 rw[z9pa (by simp[hs])]
 simp[hs,sha,List.take_of_length_le]
end Go.Abs
end

section
namespace Go.Abs
theorem z9ld (E:Env):∀ds,z2yb.pre ds→ds.length=z7Ta.n∧awp E z7Ta.body (z6va z7Ta.res (z2yb.post ds)) (z4H z7Ta.wr ds):=by
 rintro _ rfl
 simp[z7Ta,z2yb,z3j.v,z3j.init,scs,H8.l,z60b,z5Eb,z9pa,iv,or_imp,forall_and,List.take_of_length_le]
theorem z9Id (E:Env):∀ds,z96c.pre ds→ds.length=z0Aa.n∧awp E z0Aa.body (z6va z0Aa.res (z96c.post ds)) (z4H z0Aa.wr ds):=by
 rintro _ ⟨x,k,rfl⟩
 simp[z0Aa,z96c,z4wc]
theorem z81d (E:Env) (h13:E.G 13=z96c):∀ds,z9md.pre ds→ds.length=z2cb.n∧awp E z2cb.body (z6va z2cb.res (z9md.post ds)) (z4H z2cb.wr ds):=by
 rintro _ ⟨x,i,j,k,rfl⟩
 simp[z2cb,z9md,h13,z96c]
theorem z5id (E:Env) (h13:E.G 13=z96c):∀ds,z9fb.pre ds→ds.length=z0Ha.n∧awp E z0Ha.body (z6va z0Ha.res (z9fb.post ds)) (z4H z0Ha.wr ds):=by
 rintro _ ⟨nl,b,hb,rfl⟩
 simp[z0Ha,h13,z96c,z9fb]
 refine z1g fun Q0 hQ0=> ?_
 refine z2v (fun t:Nat=>⟨[(0,.sl .plain nl 64 (bys b))],[(2,.bp 2 0),(3,.bp 3 0),(11,i64 t)],[(2,some (z7g (z8wa 64))),(3,some (z7g (z4N b t++z8wa (64-t))))]⟩)
  (fun t=>64-t) (· ≤64) 0 rfl (by decide) fun t ht=> ?_
 have hl:=z6Ea b t
 refine z1g fun Q1 hQ1=> ?_
 simp(disch:=first|omega|(simp;omega)) [z7G]
 rw[z4h]
 refine⟨by simp,fun h=> ?_,fun h=> ?_⟩<;>simp at h
 ·simp(disch:=first|omega|(simp;omega)) [z7G]
  rw[z4h]
  refine⟨by simp,fun h16=> ?_,fun h16=> ?_⟩<;>simp at h16
  ·simp(disch:=first|omega|(simp;omega)) [z7G]
   refine⟨by omega,?_⟩
   refine z1g fun Q2 hQ2=> ?_
   refine z2v (fun j:Nat=>⟨[(0,.sl .plain nl 64 (bys b))],[(2,.bp 2 0),(3,.bp 3 0),(4,i64 t),(11,i64 t),(22,.sl .plain nl 4 (bys ((b.drop (4*t)).take 4))),(23,i64 4),(24,i64 j)],
     [(2,some (z7g (z8wa 64))),(3,some (z7g (z4N b t++ldw b t j::z8wa (63-t))))]⟩)
    (fun j=>4-j) (· ≤4) 0 ?_ (by decide) fun j hj=> ?_
   ·have e1:(4*(t:Int)+4).toNat-(4*(t:Int)).toNat=4:=by omega
    have e2:(4*(t:Int)).toNat=4*t:=by omega
    rw[e1,e2,z2Ab (show t<64 by omega),ldw]
    rfl
   refine z1g fun Q3 hQ3=> ?_
   simp(disch:=first|omega|(simp;omega)) [z7G]
   rw[z4h]
   refine⟨by simp,fun h4=> ?_,fun h4=> ?_⟩<;>simp at h4
   ·simp(disch:=first|omega|(simp;omega)) [z7G,z08b,z3cb,z0cd,z05c,z2Lc,z7Qa,z1Wb]
    repeat' (first|omega|apply And.intro)
    simp(disch:=omega) [hQ3,z7G]
    refine⟨j+1,by omega,by omega,by omega,?_⟩
    rw[ldw]
   ·have e4:j=4:=by omega
    subst e4
    simp(disch:=omega) [hQ3,hQ2,hQ1,z7G]
    refine⟨t+1,by omega,by omega,by omega,?_⟩
    rw[z4N,z8ha,if_pos (by omega),show 64-(t+1)=63-t by omega]
    simp
  ·simp(disch:=first|omega|(simp;omega)) [z7G,h13,z96c,z4Rd,z8Cd,z0sd,z5xd,z3cb,z7Qa,z0Dc]
   repeat' (first|omega|apply And.intro)
   simp[hQ1]
   refine⟨t+1,by omega,by omega,by omega,?_⟩
   rw[z4N,z8ha,if_neg (by omega),show 64-(t+1)=63-t by omega,z2Ab (by omega),show((t:Int)-16).toNat=t-16 by omega,show((t:Int)-15).toNat=t-15 by omega,show((t:Int)-7).toNat=t-7 by omega,show((t:Int)-2).toNat=t-2 by omega]
   simp[sg0,sg1]
 ·have e:t=64:=by omega
  subst e
  simp(disch:=simp[hl]) [hQ1,hQ0,z9pa,hl,List.take_of_length_le,z8wa]
end Go.Abs
end

section
namespace Go.Abs
theorem z3Ad (E:Env) (h4:E.G 4=z3Sb):∀ds,z5zc.pre ds→ds.length=z8Ca.n∧awp E z8Ca.body (z6va z8Ca.res (z5zc.post ds)) (z4H z8Ca.wr ds):=by
 rintro _ ⟨s,m,hb,rfl⟩
 simp(disch:=first|omega|(simp;omega)) [z8Ca,h4,z3Sb,z5zc,z3j.v,hb,z71a,z3j.of_scs]
 refine z1g fun Q0 hQ0=> ?_
 refine z2v (fun k:Nat=>⟨[(0,.agg (scs s))],[(1,st (m.drop k)),(2,.bp 2 0),(4,.bp 4 0)],
   [(2,some (scs (s.add (m.take k)))),(4,some (z7g (z8wa 8)++(bys (z5j 64)++[u64 0])))]⟩)
  (fun k=>m.length-k) (· ≤m.length) 0 (by simp[z3j.add]) (by simp) fun k hk=> ?_
 refine z1g fun Q1 hQ1=> ?_
 have hb':(s.add (m.take k)).b.length=64:=by rw[z7Mb,hb]
 simp(disch:=first|omega|(simp;omega)) [z7G]
 rw[z4h]
 refine⟨by simp,fun h=> ?_,fun h=> ?_⟩<;>simp at h
 ·generalize hs:s.add (m.take k)=s' at*
  generalize hr:m.drop k=r at*
  have hrl:r.length=m.length-k:=by rw[←hr];simp
  have hn:s'.n.toNat% 64<64:=Nat.mod_lt _ (by decide)
  simp(disch:=first|omega|(simp;omega)) [z7G,z71a,z8hd,z5Ld,z7Ad,z4kc,z5Rc,z80c,hb']
  refine⟨by omega,by omega,by omega,?_⟩
  refine z1g fun Q2 hQ2=> ?_
  generalize hj:min r.length (64-s'.n.toNat% 64)=j at*
  have hjl:j≤r.length:=by omega
  have hpiece:=z4Xb s' hb' j (r.take j) (by simp;omega) (by omega)
  have hstep:s.add (m.take (k+j))=s'.add (r.take j):=by rw[List.take_add,z8pb,hs,hr]
  have hrest:(r.drop j).take (r.length-j)=m.drop (k+j):=by
   rw[List.take_of_length_le (by simp),←hr,List.drop_drop]
  have hof:UInt64.ofInt (j:Int)=UInt64.ofNat j:=by
   apply UInt64.toNat_inj.1
   rw[z3l,UInt64.toNat_ofNat']
   omega
  rw[z4h]
  refine⟨by simp,fun h30=> ?_,fun h30=> ?_⟩<;>simp at h30
  ·generalize hS:(⟨s'.h,_,_⟩:z3j)=S at*
   have hSb:S.b.length=64:=by rw[←hS];simp[hb'];omega
   simp(disch:=first|omega|(simp;omega)) [h4,z3Sb,z71a,z5Ld,z7Ad,z4kc,hSb]
   refine⟨⟨_,_,_,hSb,rfl,rfl,rfl⟩,?_⟩
   simp[hQ2,hQ1]
   refine⟨k+j,by omega,by omega,hrest,?_⟩
   rw[hstep,hpiece,if_pos (by omega),←hS,hof]
  ·simp[hQ2,hQ1]
   refine⟨k+j,by omega,by omega,hrest,?_⟩
   rw[hstep,hpiece,if_neg (by omega),hof]
 ·have e:k=m.length:=by omega
  subst e
  have hm:(s.add m).b.length=64:=by rw[z7Mb,hb]
  simp[hQ1,hQ0,z71a hm,z4ac hm z0Fc,z8Nc hm]
end Go.Abs
end

section
namespace Go.Abs
theorem z6Rd:kc.length=64:=rfl
def z8lc (s:List UInt32) (v e:List UInt32):Nat→List UInt32
 |0=>s
 |t+1=>((z8lc s v e t).set t (z8i (z8lc s v e t) t+z8i v t)).set (t+4) (z8i ((z8lc s v e t).set t (z8i (z8lc s v e t) t+z8i v t)) (t+4)+z8i e t)
theorem z7Ec (s v e:List UInt32):∀t,(z8lc s v e t).length=s.length
 |0=>rfl
 |t+1=>by simp[z8lc,z7Ec s v e t]
theorem z93d (s v:H8):z8lc s.l [v.a,v.b,v.c,v.d] [v.e,v.f,v.g,v.h] 4=(s.add v).l:=rfl

theorem z7id (E:Env) (hT:E.T 0=z7g kc) (h10:E.G 10=z9fb) (h11:E.G 11=z9md):∀ds,z3Sb.pre ds→ds.length=z8Ga.n∧awp E z8Ga.body (z6va z8Ga.res (z3Sb.post ds)) (z4H z8Ga.wr ds):=by
 rintro _ ⟨s,nl,b,hb,rfl⟩
 have hl:=z6Ea b 64
 have hk:=z6Rd
 simp(disch:=first|omega|(simp;omega)) [z8Ga,h10,h11,z9fb,z9md,z3Sb,hT]
 refine⟨hb,hl,by omega,?_⟩
 refine z1g fun Q0 hQ0=> ?_
 refine z2v (fun t:Nat=>⟨[(0,.agg (z7g s.l)),(1,.sl .plain nl 64 (bys b))],
   [(2,.bp 2 0),(4,.bp 4 0),(5,.bp 5 0),(6,.bp 6 0),(7,.bp 7 0),(21,.agg (z7g kc)),(22,i64 t)],
   [(2,some (z7g s.l)),(4,some (z7g (z8wa 8))),(5,some (z7g (z4N b 64))),
    (6,some (z7g [(z24b (z4N b 64) s t).a,(z24b (z4N b 64) s t).b,(z24b (z4N b 64) s t).c,(z24b (z4N b 64) s t).d])),
    (7,some (z7g [(z24b (z4N b 64) s t).e,(z24b (z4N b 64) s t).f,(z24b (z4N b 64) s t).g,(z24b (z4N b 64) s t).h]))]⟩)
  (fun t=>64-t) (· ≤64) 0 ?_ (by decide) fun t ht=> ?_
 ·have e:kc.take 64=kc:=rfl
  simp(disch:=simp[hl]) [z9pa,z24b,H8.l,e]
 refine z1g fun Q1 hQ1=> ?_
 simp(disch:=first|omega|(simp;omega)) [z7G]
 rw[z4h]
 refine⟨by simp,fun h=> ?_,fun h=> ?_⟩<;>simp at h
 ·generalize hr:z24b (z4N b 64) s t=r at*
  simp(maxSteps:=2000000) (disch:=first|omega|(simp;omega)) [z7G,z60b,h11,z9md,z02d,z7td,z9Ad,z12d,z9td,z3td,z3cb,z43b,hl,hk,z9pa]
  repeat' (first|omega|apply And.intro)
  rw[hQ1]
  simp[z60b]
  refine⟨t+1,by omega,by omega,by omega,?_⟩
  have sf:∀a b c d x y z w:z0a,splice [a,b,c,d] 0 [x,y,z,w]=[x,y,z,w]:=fun a b c d x y z w=>rfl
  simp only[z24b,hr,sf,rnd,and_self]
 ·have e:t=64:=by omega
  subst e
  simp[hQ1,hQ0]
  refine z1g fun Q2 hQ2=> ?_
  generalize hv:z24b (z4N b 64) s 64=v at*
  refine z2v (fun t:Nat=>⟨[(0,.agg (z7g s.l)),(1,.sl .plain nl 64 (bys b))],
   [(2,.bp 2 0),(4,.bp 4 0),(6,.bp 6 0),(7,.bp 7 0),(94,i64 t)],
   [(2,some (z7g (z8lc s.l [v.a,v.b,v.c,v.d] [v.e,v.f,v.g,v.h] t))),(4,some (z7g (z8wa 8))),(5,some (z7g (z4N b 64))),
    (6,some (z7g [v.a,v.b,v.c,v.d])),(7,some (z7g [v.e,v.f,v.g,v.h]))]⟩)
   (fun t=>4-t) (· ≤4) 0 rfl (by decide) fun t ht=> ?_
  refine z1g fun Q3 hQ3=> ?_
  simp(disch:=first|omega|(simp;omega)) [z7G]
  rw[z4h]
  have ha:=z7Ec s.l [v.a,v.b,v.c,v.d] [v.e,v.f,v.g,v.h] t
  rw[H8.len] at ha
  refine⟨by simp,fun h=> ?_,fun h=> ?_⟩<;>simp at h
  ·simp(disch:=first|omega|(simp;omega)) [z7G,z3cb,z7Qa]
   repeat' (first|omega|apply And.intro)
   have e4:((t:Int)+4).toNat=t+4:=by omega
   rw[e4,z7Qa (by rw[List.length_set,ha];omega),hQ3]
   simp
   exact⟨t+1,by omega,by omega,by omega,rfl⟩
  ·have e:t=4:=by omega
   subst e
   simp[hQ3,hQ2,z93d,z9pa,z5ia,hv]
   rfl
end Go.Abs
end

section
namespace Go.Abs
theorem z68d (E:Env) (h1:E.G 1=z5zc):∀ds,z8Rc.pre ds→ds.length=z6Ca.n∧awp E z6Ca.body (z6va z6Ca.res (z8Rc.post ds)) (z4H z6Ca.wr ds):=by
 rintro _ ⟨s,hb,hn,rfl⟩
 simp(disch:=first|omega|(simp;omega)) [z6Ca,h1,z5zc,z8Rc,z3j.v,hb,z71a,z3j.of_scs,z8hd]
 refine z1g fun Q0 hQ0=> ?_
 refine z2v (fun k:Nat=>⟨[(0,.agg (scs s))],[(1,.bp 1 0),(2,.bp 2 0),(3,u64 (8*s.n)),(4,.sl (.own 1) (some false) (k+1) (bys (128::z5j k)))],
   [(1,some (scs s)),(2,some (bys (z5j 32)))]⟩)
  (fun k=>z84b s.n.toNat-k) (· ≤z84b s.n.toNat) 0 rfl (by simp) fun k hk=> ?_
 have hz:=z3rc s.n.toNat
 have hzo:=z0sc s.n.toNat
 refine z1g fun Q1 hQ1=> ?_
 simp(disch:=first|omega|(simp;omega)) [z7G,z71a,z8hd,hb]
 rw[z4h]
 refine⟨by simp,fun h=> ?_,fun h=> ?_⟩<;>simp at h<;>rw[Int.tmod_eq_emod_of_nonneg (by omega)] at h
 ·simp(disch:=first|omega|(simp;omega)) [z7G,hQ1]
  clear hQ0 hQ1
  refine⟨by omega,?_⟩
  refine⟨k+1,by omega,by omega,by omega,?_⟩
  rw[show [u8 0]=bys [0] from rfl,←z3Oa,←z14b]
  simp
 ·have e:k=z84b s.n.toNat:=by omega
  subst e
  simp[hQ1,hQ0]
  refine z1g fun Q2 hQ2=> ?_
  refine z2v (fun i:Nat=>⟨[(0,.agg (scs s))],[(1,.bp 1 0),(2,.bp 2 0),(3,u64 (8*s.n)),(4,.sl (.own 1) (some false) (z84b s.n.toNat+1+i) (bys (128::z5j (z84b s.n.toNat)++be8 (8*s.n) i))),(23,i64 i)],
    [(1,some (scs s)),(2,some (bys (z5j 32)))]⟩)
   (fun i=>8-i) (· ≤8) 0 (by simp[be8]) (by decide) fun i hi=> ?_
  have hbe:=z0Rb (8*s.n) i
  refine z1g fun Q3 hQ3=> ?_
  simp(disch:=first|omega|(simp;omega)) [z7G]
  rw[z4h]
  refine⟨by simp,fun h=> ?_,fun h=> ?_⟩<;>simp at h
  ·have e7:((56:Int)-8*(i:Int)).toNat=56-8*i:=by omega
   simp(disch:=first|omega|(simp;omega)) [z7G,e7]
   repeat' (first|omega|apply And.intro)
   rw[hQ3]
   simp
   refine⟨i+1,by omega,by omega,⟨by omega,?_⟩,by omega⟩
   rw[be8,show [u8 (z5n (8*s.n) (56-8*i)).toUInt8]=bys [(z5n (8*s.n) (56-8*i)).toUInt8] from rfl,←z3Oa]
   simp
  ·have e:i=8:=by omega
   subst e
   simp(disch:=first|omega|(simp;omega)) [hQ3,hQ2,h1,z5zc,z3j.v,z71a,z8Nc,z4ac,hb,z3j.of_scs,z7Mb]
   generalize hS:s.add (128::(z5j (z84b s.n.toNat)++be8 (8*s.n) 8))=S at*
   have hSb:S.b.length=64:=by rw[←hS,z7Mb,hb]
   have hsum:s.sum=z6ba S.h 32:=by rw[←hS];rfl
   rw[z4ac hSb (z71a hb),hsum]
   clear hQ1 hQ2 hQ3 hQ0
   refine⟨?_,⟨s,hb,rfl⟩,z71a hSb,?_⟩
   ·have:=z0Rb (8*s.n) 8
    simp[this]
   refine z1g fun Q4 hQ4=> ?_
   refine z2v (fun i:Nat=>⟨[(0,.agg (scs s))],[(1,.bp 1 0),(2,.bp 2 0),(6,.bp 6 0),(40,i64 i)],
     [(1,some (scs S)),(2,some (bys (z5j 32))),(6,some (bys (z6ba S.h i++z5j (32-i))))]⟩)
    (fun i=>32-i) (· ≤32) 0 rfl (by decide) fun i hi=> ?_
   have ho:=z1p S.h i
   refine z1g fun Q5 hQ5=> ?_
   simp(disch:=first|omega|(simp;omega)) [z7G]
   rw[z4h]
   refine⟨by simp,fun h=> ?_,fun h=> ?_⟩<;>simp at h
   ·have e4:(i:Int).tmod 4=((i% 4:Nat):Int):=by rw[Int.tmod_eq_emod_of_nonneg (by omega)];rfl
    have e5:((i:Int)/4).toNat=i/4:=by omega
    have e6:((24:Int)-8*((i% 4:Nat):Int)).toNat=24-8*(i% 4):=by omega
    simp(disch:=first|omega|(simp;omega)) [z7G,e4,e5,z3Wd,z71a hSb]
    refine⟨by omega,by omega,by omega,by omega,by omega,?_⟩
    have e7:((24:Int)-8*((i:Int)% 4)).toNat=24-8*(i% 4):=by omega
    rw[e7,z4Lb (by simp;omega),z3bc (by omega),z1Wb ho.symm,hQ5]
    simp
    refine⟨i+1,by omega,by omega,by omega,?_⟩
    rw[z6ba,show 32-(i+1)=32-1-i by omega]
    simp
   ·have e:i=32:=by omega
    subst e
    simp(disch:=simp[ho]) [hQ5,hQ4,z9pa,ho,List.take_of_length_le,z5j]
end Go.Abs
end

section
namespace Go.Abs
def z93c:ItC:=z9yc z9ub
theorem z0Kd (E:Env) (h303:E.G 303=z9ub):∀x y l,z93c.pre x y→x.length=z5ta.nx∧y.length=z5ta.ny∧z0sb E l (z93c.el x y) z5ta.body (itQ (z93c.el x y)) (0,false) (z13c l [] x y):=z0Pc E z9ub h303
end Go.Abs
end

section
namespace Go.Abs
theorem z9he (E:Env) (h0:E.G 0=z2yb) (h1:E.G 1=z5zc) (h2:E.G 2=z8Rc) (h7:E.G 7=z4tb):∀ds,ofC.pre ds→ds.length=z2ob.n∧awp E z2ob.body (z6va z2ob.res (ofC.post ds)) (z4H z2ob.wr ds):=by
 rintro _ ⟨tag,nl,parts,hl,rfl⟩
 simp(maxSteps:=1000000) (disch:=first|omega|simp;done|simp;omega) [z7G,z8pa,z7pa,z2ob,h0,h1]
 refine z1g fun Q0 hQ0=> ?_
 refine z2v (fun i:Nat=>⟨[(0,i64 tag),(1,.sl .plain nl parts.length (sts parts))],[(4,.bp 4 0),(5,.bp 5 0),(15,.sl .plain nl parts.length (sts parts)),(16,i64 parts.length),(17,i64 i)],
   [(4,some (bys (z5j 16))),(5,some (svc (z4ga tag (parts.take i))))]⟩)
  (fun i=>parts.length-i) (· ≤parts.length) 0 rfl (by simp) fun i hi=> ?_
 have hlen:=z1Gb parts
 refine z1g fun Q1 hQ1=> ?_
 simp(maxSteps:=1000000) (disch:=first|omega|simp;done|simp;omega) [z7G,z8pa,z7pa]
 rw[z4h]
 refine⟨by simp,fun h=> ?_,fun h=> ?_⟩<;>simp at h
 ·have hb:=z70b (l:=parts) (i:=i) (by omega)
  simp(maxSteps:=1000000) (disch:=first|omega|simp;done|simp;omega) [z7G,z8pa,z7pa,z6pd,h7,h1,z9Gb]
  repeat' (first|omega|apply And.intro)
  simp[hQ1]
  refine⟨i+1,by omega,by omega,by omega,?_⟩
  rw[z4ga,z4ga,z7za _ _ [] (by omega)]
  rfl
 ·have e:i=parts.length:=by omega
  subst e
  have hi:(z4ga tag parts).length<1099511627776:=by
   have:=z2Qa hl
   simp only[z4ga,List.length_cons];omega
  simp(maxSteps:=1000000) (disch:=first|omega|simp;done|simp;omega) [z7G,z8pa,z7pa,hQ1,hQ0,h2,z4Gd,z9ua]
  rw[z0f,List.take_take,Nat.min_self]
end Go.Abs
end

section
namespace Go.Abs
set_option maxRecDepth 100000
def z1yc:z1f:=⟨fun ds=>∃m:z3P,m.ok∧ds=[.agg (z5Ma m)],fun ds=> .sl (.own 1) (some false) 8 (z1Aa (z6ha (z0md (gCs (nth ds 0)))))⟩
theorem z97c {m:z3P} (h:m.ok):z1yc.pre [.agg (z5Ma m)]=True:=eq_true ⟨m,h,rfl⟩
theorem z7ic (m:z3P):z1yc.post [.agg (z5Ma m)]= .sl (.own 1) (some false) 8 (z1Aa (z6ha m)):=by
 show z0a.sl (.own 1) (some false) 8 (z1Aa (z6ha (z0md (z5Ma m))))=_
 rw[z9Hb]
theorem z3wd (E:Env):∀ds,z1yc.pre ds→ds.length=z8sa.n∧awp E z8sa.body (z6va z8sa.res (z1yc.post ds)) (z4H z8sa.wr ds):=by
 rintro _ ⟨m,hm,rfl⟩
 rw[z7ic]
 have hd:=hm.2.2.2.2.2.2.2
 have hl:=z3Ja hd
 cases hr:m.raw
 ·simp(maxSteps:=1000000) (disch:=first|omega|simp;done|simp;omega) [z7G,z8pa,z7pa,z8sa,z3Fa,kT,kF,hl,z3zb,z3Mb,hr]
  simp[z6ha,z1Aa,z4ae,hr]
 ·simp(maxSteps:=1000000) (disch:=first|omega|simp;done|simp;omega) [z7G,z8pa,z7pa,z8sa,z3Fa,kT,kF,hl,z3zb,z3Mb,hr]
  simp[z6ha,z1Aa,z4ae,hr]
theorem z8yc {l:List Int} {n:Nat} {cs:List z0a} (nl:Option Bool) (h:∀x∈l,z2e x) (hl:l.length≤100000000) (hn:n=l.length) (hc:cs=z1Aa l):z4Xa.pre [.sl .plain nl n cs]=True:=by
 subst hn hc
 exact z8Vb hl h rfl
theorem z98b {l:List Int} {n:Nat} {cs:List z0a} (nl:Option Bool) (hc:cs=z1Aa l):z4Xa.post [.sl .plain nl n cs]= .sl (.own 1) none (z6y l).length (bys (z6y l)):=by
 subst hc
 rw[z4Xa,z1qb];rfl
set_option maxHeartbeats 16000000 in
theorem z1ed (E:Env) (h40:E.G 40=z4Xa) (h147:E.G 147=z2Mb) (h29:E.G 29=z4kb) (h23:E.G 23=z7fb) (h30:E.G 30=z72b) (h332:E.G 332=z1yc):∀ds,z5Sb.pre ds→ds.length=z3va.n∧awp E z3va.body (z6va z3va.res (z5Sb.post ds)) (z4H z3va.wr ds):=by
 rintro _ ⟨nc,nm,ng,x,hx,rfl⟩
 rw[z5Ib hx,z7Bc]
 have hd:=hx.1.2.2.2.2.2.1
 have h16:=hx.1.2.2.2.2.2.2.1
 have hgo:=hx.1.2.2.2.2.2.2.2
 have hml:=hx.2.2.1
 have hgl:=hx.2.2.2
 have hl:=z5Oa (nc:=nc) (nm:=nm) (ng:=ng) hd
 have e28:=z6Ib (nc:=nc) (nm:=nm) (ng:=ng) hd
 have e29:=z1Ib (nc:=nc) (nm:=nm) (ng:=ng) hd
 have hg:=z3Eb (nc:=nc) (nm:=nm) (ng:=ng) hd
 have hlen:=z4Va (z1Ca h16)
 have hHl:=z7ec hx
 have hc2:=z59b hx.2.1
 have hp4:z4Xa.pre [.sl .plain (some false) 4 [i64 x.time,i64 x.kind,i64 x.req,i64 x.mode]]=True:=z8yc (some false) (z0zc hx.1) (by simp) rfl rfl
 have hq4:z4Xa.post [.sl .plain (some false) 4 [i64 x.time,i64 x.kind,i64 x.req,i64 x.mode]]=_:=z98b (l:=[x.time,x.kind,x.req,x.mode]) (some false) rfl
 have hpg:z4Xa.pre [.sl .plain ng x.gone.length (z1Aa x.gone)]=True:=z8yc ng hgo (by omega) rfl rfl
 have hqg:z4Xa.post [.sl .plain ng x.gone.length (z1Aa x.gone)]=_:=z98b (l:=x.gone) ng rfl
 have hgle:=z8ib hgo (by omega)
 have hib:=z5Jb (n:=(x.made.length:Int)) (by omega) (by omega)
 have hHd:z26c x=z6y [x.time,x.kind,x.req,x.mode]++(z2X (z38b x.cmd)++(x.dig++z4r x.made.length)):=rfl
 have hHll:=congrArg List.length hHd
 simp only[List.length_append] at hHll
 generalize hH:z26c x=H at*
 generalize hG:z6y x.gone=G at*
 generalize h4:z6y [x.time,x.kind,x.req,x.mode]=e4 at*
 generalize hSS:z2X (z38b x.cmd)=eS at*
 generalize hN:z4r x.made.length=eN at*
 simp(maxSteps:=1000000) (disch:=first|omega|simp;done|simp;omega) [z7G,z8pa,z7pa,z3va,hl,h40,hp4,hq4,h147,z4Gc hx.2.1,z6Gb,h29,z4Pb,hSS,hg,e28,h30,hib,hN,h23,z0rb,hd,-z8pa,-List.length_append]
 rw[←hHd]
 repeat' apply And.intro
 all_goals try (first|omega|(simp only[List.length_append];omega))
 refine z1g fun Q0 hQ0=> ?_
 refine z2v (fun i:Nat=>⟨[(0,.agg (z7va nc nm ng x))],[(1,.bp 1 0),(3,st (H++(x.made.take i).flatMap z8Jb)),(4,i64 i)],[(1,some (z7va nc nm ng x))]⟩)
  (fun i=>x.made.length-i) (fun i=>i≤x.made.length) 0 (by simp) (by simp) fun i hi=> ?_
 refine z1g fun Q1 hQ1=> ?_
 have hBl:(H++(x.made.take i).flatMap z8Jb).length≤2000001000+97*i:=by
  have:=z4Kb (l:=x.made.take i) fun m hm=>h16 m (List.mem_of_mem_take hm)
  rw[List.length_append]
  rw[List.length_take] at this
  omega
 by_cases h1:i<x.made.length
 ·have hm:=h16 _ (z6fc h1)
  have hmd:=hm.2.2.2.2.2.2.2
  have ha:=z7Oc h16 h1
  have hmll:=z3Ja hmd
  have hle:24≤x.made.length*24-i*24:=by omega
  have hle2:i*24≤x.made.length*24:=by omega
  have hs:(x.made.take (i+1)).flatMap z8Jb=(x.made.take i).flatMap z8Jb++z8Jb (atD x.made i):=by
   rw[List.take_succ_eq_append_getElem h1,List.flatMap_append,z30b h1];simp
  have hnok:=z9ec hm
  have e8l:=z8ib hnok (by simp[z6ha])
  have ha8:((z0Ca x.made).drop (i*24+8)).take 16=bys (atD x.made i).dig:=by
   rw[←List.drop_drop,show 16=24-8 by rfl,←List.drop_take,ha];rfl
  generalize hX:atD x.made i=X at*
  have nl8:(z6ha X).length=8:=rfl
  rw[nl8] at e8l
  have k1:z4Xa.pre [.sl .plain (some false) 8 (z1Aa (z6ha X))]=True:=z8yc (l:=z6ha X) (some false) hnok (by rw[nl8];omega) rfl rfl
  have k2:z4Xa.post [.sl .plain (some false) 8 (z1Aa (z6ha X))]= .sl (.own 1) none (z6y (z6ha X)).length (bys (z6y (z6ha X))):=z98b (l:=z6ha X) (some false) rfl
  have hcat:z8Jb X=z6y (z6ha X)++X.dig:=rfl
  have hs':H++(x.made.take (i+1)).flatMap z8Jb=((H++(x.made.take i).flatMap z8Jb)++z6y (z6ha X))++X.dig:=by rw[hs,hcat];simp only[List.append_assoc]
  generalize hE:z6y (z6ha X)=e8 at*
  generalize hB:H++(x.made.take i).flatMap z8Jb=B at*
  have m1:=z97c hm
  have m2:=z7ic X
  have hle3:i*24+8≤x.made.length*24:=by omega
  have hle4:16≤x.made.length*24-(i*24+8):=by omega
  simp(maxSteps:=1000000) (disch:=first|omega|simp;done|simp;omega) [z7G,z8pa,z7pa,z9Ga,z1Sa,kT,kF,dT,dF,h1,e28,hl,hlen,hle,hle2,hle3,hle4,ha,ha8,hmll,h332,m1,m2,h40,k1,k2,h23,z0rb,hmd,hQ1,-z8pa,-List.length_append]
  exact⟨by omega,by omega,by rw[List.length_append];omega,i+1,by omega,by omega,by rw[hs',List.append_assoc],by omega⟩
 ·obtain rfl:i=x.made.length:=by omega
  rw[List.take_length] at*
  generalize hB:H++x.made.flatMap z8Jb=B at*
  simp(maxSteps:=1000000) (disch:=first|omega|simp;done|simp;omega) [z7G,z8pa,z7pa,z9Ga,kT,kF,dT,dF,hQ1,hQ0,z4Ta,hl,e28,e29,h40,hpg,hqg,-List.length_append]
  exact⟨by omega,by rw[←hB,List.append_assoc]⟩
theorem z9cd (E:Env) (h333:E.G 333=z5Sb) (h20:E.G 20=z8Rb):∀ds,z9ub.pre ds→ds.length=z1va.n∧awp E z1va.body (z6va z1va.res (z9ub.post ds)) (z4H z1va.wr ds):=by
 rintro _ ⟨nc,nm,ng,x,hx,rfl⟩
 rw[z1wb hx]
 have hd:=hx.1.2.2.2.2.2.1
 have hl:=z5Oa (nc:=nc) (nm:=nm) (ng:=ng) hd
 have htk:=z4Pc (nc:=nc) (nm:=nm) (ng:=ng) hd
 have hle:(z9Db x).length≤2200000000:=by
  have h1:=z7ec hx
  have h2:=z4Kb hx.1.2.2.2.2.2.2.1
  have h3:=z8ib hx.1.2.2.2.2.2.2.2 (by have:=hx.2.2.2;omega)
  have h4:=hx.2.2.1
  have h5:=hx.2.2.2
  rw[z7Bc,List.length_append,List.length_append]
  omega
 have hp:z8Rb.pre [i64 8,.sl .plain (some false) 1 [st (z9Db x)]]=True:=z4vc (l:=[z9Db x]) rfl (by rw[tot1];omega)
 have hq:z8Rb.post [i64 8,.sl .plain (some false) 1 [st (z9Db x)]]= .agg (bys (z0f 8 [z9Db x])):=z1C 8 _ 1 [z9Db x]
 simp(maxSteps:=1000000) (disch:=first|omega|simp;done|simp;omega) [z7G,z8pa,z7pa,z1va,hl,htk,h333,z3Cc hx,z5Ib hx,h20,hp,hq,z8e,z1k,z9ua,z7ta,z0e]
end Go.Abs
end

section
namespace Go.Abs
set_option maxRecDepth 100000
def z75a:z1c:=
 Yq (.block 3 (YR [2,3,4,5,6,7,8,9] [.norm [2,3,6,7]] [YA 34 8 1 7 7,Yl 35 7 34,YA 36 8 1 7 4,Yl 37 7 36,YC 38 26 37 6,YA 39 8 1 7 4,Yl 40 7 39,YC 41 26 40 11,Yb 42 .xor 38 41,YA 43 8 1 7 4,Yl 44 7 43,YC 45 26 44 25,Yb 46 .xor 42 45,Yb 47 .add 35 46,YA 48 8 1 7 4,Yl 49 7 48,YA 50 8 1 7 5,Yl 51 7 50,Yb 52 .and 49 51,YA 53 8 1 7 4,Yl 54 7 53,YW 55 .xor 54 (u32 4294967295),YA 56 8 1 7 6,Yl 57 7 56,Yb 58 .and 55 57,Yb 59 .xor 52 58,Yb 60 .add 47 59,Ym 61 8,Yo 62 (.idxArr 64 1 (.g 1) (.s 61)),Yj 63 62,Yb 64 .add 60 63,Ym 65 8,Ya 66 64 1 6 65,Yl 67 6 66,Yb 68 .add 64 67,Ym 9 68] (YR [2,3,4,5,6,7,8,9,10] [.norm [2,3,6,7]] [YA 69 8 1 7 0,Yl 70 7 69,YC 71 26 70 2,YA 72 8 1 7 0,Yl 73 7 72,YC 74 26 73 13,Yb 75 .xor 71 74,YA 76 8 1 7 0,Yl 77 7 76,YC 78 26 77 22,Yb 79 .xor 75 78,YA 80 8 1 7 0,Yl 81 7 80,YA 82 8 1 7 1,Yl 83 7 82,Yb 84 .and 81 83,YA 85 8 1 7 0,Yl 86 7 85,YA 87 8 1 7 2,Yl 88 7 87,Yb 89 .and 86 88,Yb 90 .xor 84 89,YA 91 8 1 7 1,Yl 92 7 91,YA 93 8 1 7 2,Yl 94 7 93,Yb 95 .and 92 94,Yb 96 .xor 90 95,Yb 97 .add 79 96,Ym 10 97] (.region [2,3,4,5,6,7,8] [.norm [2,3,6,7]] [Ym 98 9,Ym 99 10,Yb 100 .add 98 99,YA 101 8 1 7 0,Yl 102 7 101,YA 103 8 1 7 1,Yl 104 7 103,YA 105 8 1 7 2,Yl 106 7 105,YA 107 8 1 7 3,Yl 108 7 107,Ym 109 9,Yb 110 .add 108 109,YA 111 8 1 7 4,Yl 112 7 111,YA 113 8 1 7 5,Yl 114 7 113,YA 115 8 1 7 6,Yl 116 7 115,Yo 117 (.build [u32 0,u32 0,u32 0,u32 0,u32 0,u32 0,u32 0,u32 0] [(0,1,.s 100),(1,1,.s 102),(2,1,.s 104),(3,1,.s 106),(4,1,.s 110),(5,1,.s 112),(6,1,.s 114),(7,1,.s 116)]),Ys 8 7 7 117])))) (Yu [2,3,4,5,6,7,8] [Ym 32 8,YB 33 .add 32 1,Ym 8 33])
def z95a:z1c:=
 Yq (Yr [2,3,4,5,6,7,8,31] [Ym 30 8,YB 31 .lss 30 64] (Yd 31 (Yy [2,3,4,5,6,7,8]) (.ghost (.keep [2,3,4,5,7]) (.exit 2)))) z75a
def z74a:z1c:=
 Yq (.block 5 (.region [2,3,4,5,7,11] [.norm [2,3,6,7]] [Ym 122 11,Ym 123 11,Ya 124 8 1 3 123,Yl 125 3 124,Ym 126 11,Ya 127 8 1 7 126,Yl 128 7 127,Yb 129 .add 125 128,Ya 130 8 1 3 122,YS 3 130 129])) (Yu [2,3,4,5,7,11] [Ym 120 11,YB 121 .add 120 1,Ym 11 121])
def z56a:z1c:=
 Yq (Yr [2,3,4,5,7,11,119] [Ym 118 11,YB 119 .lss 118 8] (Yd 119 (Yy [2,3,4,5,7,11]) (.ghost (.keep [2,3,4,5]) (.exit 4)))) z74a
def z46a:z1c:=
 Yr [2,3,4,5,7,11] [Yc 11 0] (.block 4 (.loop z56a))
def z85a:z1c:=
 Yq (.block 1 (YR [2,3,4,5,6] [.norm [2,3,6]] [Ym 23 4,Ym 24 5,Ym 25 5,YB 26 .add 25 64,Yo 27 (.slSl 1 (.s 23) (some (.s 24)) (some (.s 26)) none),Yk 28 25 27,Yo 6 (.alloc 6 (z7g (z8wa 64))),Ys 64 6 6 28] (YR [2,3,4,5,6,7] [.norm [2,3,6,7]] [YL 29 8 3 3,Yo 7 (.alloc 7 (z7g (z8wa 8))),Ys 8 7 7 29] (Yq (Yr [2,3,4,5,6,7,8] [Yc 8 0] (.block 2 (.loop z95a))) z46a)))) (.region [2,3,4,5] [.drop [6,7]] [Ym 21 5,YB 22 .add 21 64,Ym 5 22])
def z06a:z1c:=
 Yq (Yr [2,3,4,5,20] [Ym 17 5,Ym 18 4,Yn 19 18,Yb 20 .lss 17 19] (Yd 20 (Yy [2,3,4,5]) (YY [2,3]))) z85a
def z14a:z1c:=
 Yq (.block 7 (.region [2,3,12,13] [.norm [2,3,6,7,12]] [Ym 135 13,Ym 136 13,YB 137 .quo 136 4,Ya 138 8 1 3 137,Yl 139 3 138,Ym 140 13,YB 141 .rem 140 4,Yo 142 (.bin .mul (.c (i64 8)) (.s 141)),Yo 143 (.bin .sub (.c (i64 24)) (.s 142)),Yb 144 .shr 139 143,YE 145 .u8 144,Ya 146 32 1 12 135,YS 12 146 145])) (Yu [2,3,12,13] [Ym 133 13,YB 134 .add 133 1,Ym 13 134])
def z04a:z1c:=
 Yq (Yr [2,3,12,13,132] [Ym 131 13,YB 132 .lss 131 32] (Yd 132 (Yy [2,3,12,13]) (.ghost (.keep [2,12]) (.exit 6)))) z14a
def z94a:z1c:=
 YR [2] [.norm [2,3,6,7,12]] [YL 147 32 12 12,Ys 32 2 2 147] .ret
def z25a:z1c:=
 YR [2,3,12] [.norm [2,3,6,7,12]] [Yz 12 12 32] (Yq (Yr [2,3,12,13] [Yc 13 0] (.block 6 (.loop z04a))) z94a)
def z3Ba:z1ka:=
 {n:=1,wr:=[],res:=[.cell 2 (some 32) 2],body:=YR [2] [.norm [2]] [Yz 2 2 32] (YR [2,3] [.norm [2,3]] [Yo 14 (.build [u32 0,u32 0,u32 0,u32 0,u32 0,u32 0,u32 0,u32 0] [(0,1,.c (u32 1779033703)),(1,1,.c (u32 3144134277)),(2,1,.c (u32 1013904242)),(3,1,.c (u32 2773480762)),(4,1,.c (u32 1359893119)),(5,1,.c (u32 2600822924)),(6,1,.c (u32 528734635)),(7,1,.c (u32 1541459225))]),Yo 3 (.alloc 3 (z7g (z8wa 8))),Ys 8 3 3 14] (Yr [2,3,4] [Ym 15 0,Yk 16 24 15,YM 4 16] (Yq (Yr [2,3,4,5] [Yc 5 0] (.block 0 (.loop z06a))) z25a)))}
def z35a:z1c:=
 .block 1 (Yr [3,4] [YM 16 4,Ym 17 3,YB 18 .rem 17 256,YE 19 .u8 18,Yo 20 (.buildSl 1 1 [u8 0] [(0,1,.s 19)]),YN 21 1 1 16 20,YM 4 21] (Yu [3,4] [Ym 22 3,YB 23 .quo 22 256,Ym 3 23]))
def z64a:z1c:=
 Yq (Yr [3,4,15] [Ym 14 3,YB 15 .gtr 14 0] (Yd 15 (Yy [3,4]) (YY [4]))) z35a
def z34a:z1c:=
 Yu [4,6,7] [YM 54 6,Ym 55 8,Yo 56 (.buildSl 1 1 [u8 0] [(0,1,.s 55)]),YN 57 1 1 54 56,YM 6 57]
def z86a:z1c:=
 Yq (.block 3 (Yr [4,6,7,8] [Ym 46 4,Ym 47 7,Yi 48 1 46 47,Yj 49 48,Ym 8 49] (Yq (Yr [4,6,7,8,51] [Ym 50 0,YB 51 .lss 50 0] (Yd 51 (Yu [4,6,7,8] [Ym 52 8,Yo 53 (.bin .sub (.c (u8 255)) (.s 52)),Ym 8 53]) (Yy [4,6,7,8]))) z34a))) (Yu [4,6,7] [Ym 44 7,YB 45 .sub 44 1,Ym 7 45])
def z77a:z1c:=
 Yq (Yr [4,6,7,43] [Ym 42 7,YB 43 .geq 42 0] (Yd 43 (Yy [4,6,7]) (.ghost (.keep [6]) (.exit 2)))) z86a
def z15a:z1c:=
 Yr [2] [YM 58 6,YM 2 58] .ret
def z67a:z1c:=
 Yq (Yr [4,6,7] [Ym 40 5,YB 41 .sub 40 1,Ym 7 41] (.block 2 (.loop z77a))) z15a
def z16a:z1c:=
 Yr [4,5] [Ym 24 4,Yn 25 24,Ym 5 25] (Yr [4,5,6] [Yv 6 1] (Yq (Yr [4,5,6,27] [Ym 26 0,YB 27 .geq 26 0] (Yd 27 (Yu [4,5,6] [YM 28 6,Ym 29 5,Yo 30 (.bin .add (.c (i64 128)) (.s 29)),YE 31 .u8 30,Yo 32 (.buildSl 1 1 [u8 0] [(0,1,.s 31)]),YN 33 1 1 28 32,YM 6 33]) (Yu [4,5,6] [YM 34 6,Ym 35 5,Yo 36 (.bin .sub (.c (i64 127)) (.s 35)),YE 37 .u8 36,Yo 38 (.buildSl 1 1 [u8 0] [(0,1,.s 37)]),YN 39 1 1 34 38,YM 6 39]))) z67a))
def z65a:z1c:=
 Yr [3,4] [Yv 4 1] (Yq (.block 0 (.loop z64a)) z16a)
def z8ya:z1ka:=
 {n:=1,wr:=[],res:=[.t 2],body:=Yr [] [Yv 2 1] (Yr [3] [Ym 9 0,Ym 3 9] (Yq (Yr [3,11] [Ym 10 0,YB 11 .lss 10 0] (Yd 11 (Yu [3] [Ym 12 0,Yo 13 (.bin .sub (.c (i64 (-1))) (.s 12)),Ym 3 13]) (Yy [3]))) z65a))}
end Go.Abs
end
