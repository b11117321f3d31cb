/- Lemmas: an abstract interpreter, and what the functions compute. -/
import Derived.Test.YtepddcbbkhdfiaaGreatDoorG
import Derived.Test.YtepddcbbkhdfiaaGreatDoorK
import Derived.Test.YtepddcbbkhdfiaaGreatDoorJ
import Derived.Test.YtepddcbbkhdfiaaGreatDoorQ
import Derived.Test.YtepddcbbkhdfiaaGreatDoorH
import Derived.Test.YtepddcbbkhdfiaaGreatDoorV
import Derived.Test.YtepddcbbkhdfiaaGreatDoorS
import Derived.Test.YtepddcbbkhdfiaaGreatDoorO
import Derived.Test.YtepddcbbkhdfiaaGreatDoorI
set_option linter.unusedSimpArgs false
set_option linter.unusedVariables false
set_option linter.unusedSectionVars false
section
namespace Go.Abs
set_option maxRecDepth 100000
def z3ib:z1c:=
 Yd 22 (Yy [1,3,4,5]) (YY [1,3])
def z1hb:z1c:=
 Yq (.block 1 (.region [1,3,4,5] [.norm [1]] [YM 25 3,Ym 26 4,Ym 27 5,Yi 28 1 26 27,Yj 29 28,Yk 30 30 29,Yo 31 (.append 1 1 false none none 25 (.s 30)),YM 3 31])) (Yu [1,3,4,5] [Ym 23 5,YB 24 .add 23 1,Ym 5 24])
def z4eb:z1c:=
 Yq (Yr [1,3,4,5,22] [Ym 19 5,Ym 20 4,Yn 21 20,Yb 22 .lss 19 21] z3ib) z1hb
def z2hb:z1c:=
 .block 0 (.loop z4eb)
def z1jb:z1c:=
 YR [2] [.norm [1]] [YM 37 3,Yf 38 7 1,Yl 39 1 38,Yk 40 40 39,Yo 41 (.append 1 1 false none none 37 (.s 40)),YM 2 41] .ret
def z9gb:z1c:=
 YR [1,3] [.norm [1]] [YM 32 3,Yf 33 6 1,Yl 34 1 33,Yk 35 29 34,Yo 36 (.append 1 1 false none none 32 (.s 35)),YM 3 36] z1jb
def z8db:z1c:=
 Yq (Yr [1,3,4,5] [Yc 5 0] z2hb) z9gb
def z6hb:z1c:=
 YR [1,3,4] [.norm [1]] [Yf 6 0 1,Yl 7 1 6,Yf 8 1 1,Yl 9 1 8,Yf 10 2 1,Yl 11 1 10,Yf 12 3 1,Yl 13 1 12,Yf 14 4 1,Yl 15 1 14,Yf 16 5 1,Yl 17 1 16,Yo 18 (.buildSl 1 6 [i64 0,i64 0,i64 0,i64 0,i64 0,i64 0] [(0,1,.s 7),(1,1,.s 9),(2,1,.s 11),(3,1,.s 13),(4,1,.s 15),(5,1,.s 17)]),YM 4 18] z8db
def z8hb:z1c:=
 Yr [1,3] [Yo 3 (.mv true (.c (.sl (.own 1) none 0 [])))] z6hb
def z2tb:z1ka:=
 {n:=1,wr:=[],res:=[.t 2],body:=YR [1] [.norm [1]] [Yx 1 1 8 0,Yo 2 (.mv true (.c (.sl (.own 1) none 0 [])))] z8hb}
def z6ra:z1c:=
 YR [4] [.norm [2,3]] [Yf 5 0 2,Yl 6 2 5,Yf 7 0 3,Yl 8 3 7,Yb 9 .eql 6 8,Ym 10 9,YG 10 (Yf 11 1 2),YG 10 (Yl 12 2 11),YG 10 (Yf 13 1 3),YG 10 (Yl 14 3 13),YG 10 (Yb 15 .eql 12 14),Yp 16 10 15,Ym 17 16,YG 17 (Yf 18 2 2),YG 17 (Yl 19 2 18),YG 17 (Yf 20 2 3),YG 17 (Yl 21 3 20),YG 17 (Yb 22 .eql 19 21),Yp 23 17 22,Ym 24 23,YG 24 (Yf 25 3 2),YG 24 (Yl 26 2 25),YG 24 (Yf 27 3 3),YG 24 (Yl 28 3 27),YG 24 (Yb 29 .eql 26 28),Yp 30 24 29,Ym 31 30,YG 31 (Yf 32 4 2),YG 31 (Yl 33 2 32),YG 31 (Yf 34 4 3),YG 31 (Yl 35 3 34),YG 31 (Yb 36 .eql 33 35),Yp 37 31 36,Ym 38 37,YG 38 (Yf 39 5 2),YG 38 (Yl 40 2 39),YG 38 (Yf 41 5 3),YG 38 (Yl 42 3 41),YG 38 (Yb 43 .eql 40 42),Yp 44 38 43,Ym 45 44,YG 45 (Yf 46 6 2),YG 45 (Yl 47 2 46),YG 45 (Yf 48 6 3),YG 45 (Yl 49 3 48),YG 45 (Yb 50 .eql 47 49),Yp 51 45 50,Ym 52 51,YG 52 (Yf 53 7 2),YG 52 (Yl 54 2 53),YG 52 (Yf 55 7 3),YG 52 (Yl 56 3 55),YG 52 (YK 57 54 54 56),Yp 58 52 57,Ym 4 58] .ret
def z7va:z1ka:=
 {n:=2,wr:=[],res:=[.t 4],body:=YR [2,3] [.norm [2,3]] [Yx 2 2 8 0,Yx 3 3 8 1,Yw 4 false] z6ra}
end Go.Abs
end

section
namespace Go.Abs
end Go.Abs
end

section
namespace Go.Abs
@[simp] theorem z3Wd (c:Cmd) (nl:Option Bool):(z13a c nl).length=8:=rfl
theorem z8pd {c:Cmd} (h:c.ok):∀x∈[c.kind,c.key,c.other,c.type,c.uses,c.life],z2e x:=by
 obtain⟨h1,h2,h3,h4,h5,h6,_⟩:=h
 intro x hx
 simp only[List.mem_cons,List.not_mem_nil,or_false] at hx
 rcases hx with rfl|rfl|rfl|rfl|rfl|rfl<;>assumption
set_option maxHeartbeats 4000000 in
theorem z4yd (E:Env) (h7:E.G 7=z7lb) (h12:E.G 12=z2L) (h39:E.G 39=z0Ra) (h129:E.G 129=z3Ja):∀ds,z7ac.pre ds→ds.length=z1za.n∧awp E z1za.body (z4xa z1za.res (z7ac.post ds)) (z4H z1za.wr ds):=by
 rintro _ ⟨c,nl,hc,rfl⟩
 rw[z2ac]
 obtain⟨k1,k2,k3,k4,k5,k6,dt,ls⟩:=c
 obtain⟨ho,hd,hll⟩:=hc
 simp only at hd hll
 simp(maxSteps:=1000000) (disch:=first|omega|(simp;done)|(simp;omega)) [z6G,z8pa,z7pa,z1za,z85a,z25a,z13a]
 refine z1g fun Q0 hQ0=> ?_
 simp(maxSteps:=1000000) (disch:=first|omega|(simp;done)|(simp;omega)) [z6G,z8pa,z7pa,z95a]
 have h6:=z8pd ho
 obtain⟨L,hL⟩:∃L:List Int,L=[k1,k2,k3,k4,k5,k6]:=⟨_,rfl⟩
 have hLl:L.length=6:=by rw[hL];rfl
 rw[show [i64 k1,i64 k2,i64 k3,i64 k4,i64 k5,i64 k6]=z6Ba L by rw[hL];rfl]
 rw[←hL] at h6
 refine z1v (fun i:Nat=>⟨[(0,.agg [i64 k1,i64 k2,i64 k3,i64 k4,i64 k5,i64 k6,st dt,.sl .plain nl ls.length (z6Ba ls)])],[(1,.bp 1 0),(3,.sl (.own 1) none ((L.take i).flatMap z3r).length (bys ((L.take i).flatMap z3r))),(18,.agg (z6Ba L)),(19,i64 i)],[(1,some [i64 k1,i64 k2,i64 k3,i64 k4,i64 k5,i64 k6,st dt,.sl .plain nl ls.length (z6Ba ls)])]⟩) (fun i=>6-i) (· ≤6) 0 (by simp) (by simp) fun i hi=> ?_
 refine z1g fun Q1 hQ1=> ?_
 by_cases h1:i<6
 ·have h1':i<L.length:=by omega
  have hs:=z8Da L z3r 0 h1'
  rw[show L.getD i 0=atI L i from rfl] at hs
  have ha:=h6 _ (z8nc h1')
  have g2:=z4Da ha
  have g3:=z1xa (l:=L.take i) fun x hx=>h6 x (List.mem_of_mem_take hx)
  have g4:(L.take i).length≤6:=by rw[List.length_take];omega
  generalize hF:(L.take i).flatMap z3r=F at*
  generalize hX:atI L i=x at*
  have hg:∀h:i<(z6Ba L).length,(z6Ba L)[i]=i64 x:=fun h=>by rw[←hX];simp[z6Ba,atI,List.getD,List.getElem?_eq_getElem h1']
  simp(maxSteps:=1000000) (disch:=first|omega|(simp;done)|(simp;omega)) [z6G,z8pa,z7pa,z1Ma,z2Ma,z24a,z45a,kT,kF,dT,dF,h1,hg,hLl,h12,z63b ha.1 ha.2,hQ1,-List.length_flatMap]
  exact⟨⟨by omega,by omega⟩,by omega,i+1,by omega,by omega,⟨by rw[hs,List.length_append],hs.symm⟩,by omega⟩
 ·obtain rfl:i=6:=by omega
  have hT:L.take 6=L:=by rw[←hLl,List.take_length]
  have h6l:=z1xa h6
  have e1:=z4Da (n:=(dt.length:Int)) (by constructor<;>omega)
  have e2:=z4Da (n:=(ls.length:Int)) (by constructor<;>omega)
  have e3:=z1xa (l:=ls) ho.2.2.2.2.2.2
  have hip:z0Ra.pre [.sl .plain nl ls.length (z6Ba ls)]=True:=z2Ac hll ho.2.2.2.2.2.2 rfl
  have hiq:z0Ra.post [.sl .plain nl ls.length (z6Ba ls)]= .sl (.own 1) (some false) (z5y ls).length (bys (z5y ls)):=by rw[z0Ra,z0Vb];rfl
  have hcp:z3Ja.pre [.sl .plain (some false) 3 [.sl (.own 1) none (L.flatMap z3r).length (bys (L.flatMap z3r)),.sl (.own 1) (some false) (z2X dt).length (bys (z2X dt)),.sl (.own 1) (some false) (z5y ls).length (bys (z5y ls))]]=True:=
   z2Fc (ps:=[(none,L.flatMap z3r),(some false,z2X dt),(some false,z5y ls)]) (by simp only[z9ed,List.map_cons,List.map_nil,List.sum_cons,List.sum_nil,z2X,z5y,List.length_append];omega) (by simp) rfl
  have hcq:z3Ja.post [.sl .plain (some false) 3 [.sl (.own 1) none (L.flatMap z3r).length (bys (L.flatMap z3r)),.sl (.own 1) (some false) (z2X dt).length (bys (z2X dt)),.sl (.own 1) (some false) (z5y ls).length (bys (z5y ls))]]= .sl (.own 1) none (L.flatMap z3r++(z2X dt++z5y ls)).length (bys (L.flatMap z3r++(z2X dt++z5y ls))):=by
   have:=z3oc (some false) 3 [(none,L.flatMap z3r),(some false,z2X dt),(some false,z5y ls)]
   simpa[bls,-List.length_append,-List.length_flatMap] using this
  have hE:z3ic ⟨k1,k2,k3,k4,k5,k6,dt,ls⟩=L.flatMap z3r++(z2X dt++z5y ls):=by rw[hL];rfl
  rw[hE] at hQ0
  simp(maxSteps:=1000000) (disch:=first|omega|(simp;done)|(simp;omega)) [z6G,z8pa,z7pa,z1Ma,z2Ma,kT,kF,dT,dF,hQ1,hQ0,hT,z27a,h7,z2Bb,h39,hip,hiq,h129,hcp,hcq,-z8pa,-List.length_append,-List.length_flatMap]
end Go.Abs
end

section
namespace Go.Abs
end Go.Abs
end

section
namespace Go.Abs
set_option maxHeartbeats 8000000 in
theorem z82c (E:Env) (h54:E.G 54=z4Oa):∀ds,z4ab.pre ds→ds.length=z7va.n∧awp E z7va.body (z4xa z7va.res (z4ab.post ds)) (z4H z7va.wr ds):=by
 rintro _ ⟨c,d,nl,nl',hc,hd,rfl⟩
 rw[z53a]
 obtain⟨k1,k2,k3,k4,k5,k6,dt,ls⟩:=c
 obtain⟨j1,j2,j3,j4,j5,j6,dt',ls'⟩:=d
 have hll:=hc.2.2
 simp only at hll
 simp(maxSteps:=1000000) (disch:=first|omega|(simp;done)|(simp;omega)) [z6G,z8pa,z7pa,z7va,z13a]
 refine z1g fun Q0 hQ0=> ?_
 simp only[z9Bb] at hQ0
 cases c1:k1==j1
 ·rw[c1] at hQ0
  simp(maxSteps:=1000000) (disch:=first|omega|(simp;done)|(simp;omega)) [z6G,z8pa,z7pa,z6ra,c1,hQ0]
 rw[c1] at hQ0
 cases c2:k2==j2
 ·rw[c2] at hQ0
  simp(maxSteps:=1000000) (disch:=first|omega|(simp;done)|(simp;omega)) [z6G,z8pa,z7pa,z6ra,c1,c2,hQ0]
 rw[c2] at hQ0
 cases c3:k3==j3
 ·rw[c3] at hQ0
  simp(maxSteps:=1000000) (disch:=first|omega|(simp;done)|(simp;omega)) [z6G,z8pa,z7pa,z6ra,c1,c2,c3,hQ0]
 rw[c3] at hQ0
 cases c4:k4==j4
 ·rw[c4] at hQ0
  simp(maxSteps:=1000000) (disch:=first|omega|(simp;done)|(simp;omega)) [z6G,z8pa,z7pa,z6ra,c1,c2,c3,c4,hQ0]
 rw[c4] at hQ0
 cases c5:k5==j5
 ·rw[c5] at hQ0
  simp(maxSteps:=1000000) (disch:=first|omega|(simp;done)|(simp;omega)) [z6G,z8pa,z7pa,z6ra,c1,c2,c3,c4,c5,hQ0]
 rw[c5] at hQ0
 cases c6:k6==j6
 ·rw[c6] at hQ0
  simp(maxSteps:=1000000) (disch:=first|omega|(simp;done)|(simp;omega)) [z6G,z8pa,z7pa,z6ra,c1,c2,c3,c4,c5,c6,hQ0]
 rw[c6] at hQ0
 cases c7:dt==dt'
 ·rw[c7] at hQ0
  have d7:(dt=dt')=False:=by simpa using c7
  simp(maxSteps:=1000000) (disch:=first|omega|(simp;done)|(simp;omega)) [z6G,z8pa,z7pa,z6ra,c1,c2,c3,c4,c5,c6,d7,hQ0]
 rw[c7] at hQ0
 have d7:(dt=dt')=True:=by simpa using c7
 simp(maxSteps:=1000000) (disch:=first|omega|(simp;done)|(simp;omega)) [z6G,z8pa,z7pa,z6ra,c1,c2,c3,c4,c5,c6,d7,h54,z7Vb,hQ0]
end Go.Abs
end

section
namespace Go.Abs
theorem z4Jc (E:Env):∀ds,z4Oa.pre ds→ds.length=z0ta.n∧awp E z0ta.body (z4xa z0ta.res (z4Oa.post ds)) (z4H z0ta.wr ds):=by
 rintro _ ⟨nl,nl',a,b,ha,rfl⟩
 simp(maxSteps:=1000000) (disch:=first|omega|(simp;done)|(simp;omega)) [z6G,z8pa,z7pa,z0ta]
 rw[z4h]
 refine⟨by simp,fun h=> ?_,fun h=> ?_⟩<;>simp at h
 ·have:(a==b)=false:=by simpa using fun e:a=b=>h (by rw[e])
  simp(maxSteps:=1000000) (disch:=first|omega|(simp;done)|(simp;omega)) [z6G,z8pa,z7pa,z4Oa,this]
 simp(maxSteps:=1000000) (disch:=first|omega|(simp;done)|(simp;omega)) [z6G,z8pa,z7pa,z4Ka]
 have hl:a.length=b.length:=by omega
 refine z1g fun Q0 hQ0=> ?_
 refine z1v (fun i:Nat=>⟨[(0,.sl .plain nl a.length (z6Ba a)),(1,.sl .plain nl' b.length (z6Ba b))],[(5,i64 i)],[]⟩)
  (fun i=>a.length-i) (fun i=>i≤a.length∧a.take i=b.take i) 0 rfl (by simp) fun i hi=> ?_
 obtain⟨hi,he⟩:=hi
 refine z1g fun Q1 hQ1=> ?_
 simp(maxSteps:=1000000) (disch:=first|omega|(simp;done)|(simp;omega)) [z6G,z8pa,z7pa,z6Ka]
 rw[z4h]
 refine⟨by simp,fun h1=> ?_,fun h1=> ?_⟩<;>simp at h1
 ·have h1':i<a.length:=by omega
  simp(maxSteps:=1000000) (disch:=first|omega|(simp;done)|(simp;omega)) [z6G,z8pa,z7pa,z3Ka,z4qb]
  refine⟨by omega,by omega,by omega,by omega,?_⟩
  rw[z4h]
  refine⟨by simp,fun h2=> ?_,fun h2=> ?_⟩<;>simp at h2
  ·have:(a==b)=false:=by simpa using fun e:a=b=>h2 (by rw[e])
   simp(maxSteps:=1000000) (disch:=first|omega|(simp;done)|(simp;omega)) [z6G,z8pa,z7pa,hQ1,hQ0,z4Oa,this]
  ·simp(maxSteps:=1000000) (disch:=first|omega|(simp;done)|(simp;omega)) [z6G,z8pa,z7pa,hQ1]
   refine⟨i+1,by omega,⟨by omega,?_⟩,by simp⟩
   have h3:i<b.length:=by omega
   have h4:a[i]=b[i]:=by simpa[atI,List.getD,List.getElem?_eq_getElem h1',List.getElem?_eq_getElem h3] using h2
   rw[List.take_succ_eq_append_getElem h1',List.take_succ_eq_append_getElem h3,he,h4]
 ·have e:i=a.length:=by omega
  subst e
  have:(a==b)=true:=by
   rw[List.take_length,hl,List.take_length] at he
   simpa using he
  simp(maxSteps:=1000000) (disch:=first|omega|(simp;done)|(simp;omega)) [z6G,z8pa,z7pa,hQ1,hQ0,z5Ka,z4Oa,this]
end Go.Abs
end

section
namespace Go.Abs
theorem z5sd (E:Env) (h0:E.G 0=z0sb) (h1:E.G 1=z8sc) (h2:E.G 2=z2Lc):∀ds,z43b.pre ds→ds.length=z23a.n∧awp E z23a.body (z4xa z23a.res (z43b.post ds)) (z4H z23a.wr ds):=by
 rintro _ ⟨nl,l,hl,rfl⟩
 have hb:(z3j.init.add l).b.length=64:=by rw[z7Gb,z6Ob]
 have hn:(z3j.init.add l).n.toNat<1099511627776:=by rw[z4Rb _ _ (by show 0+l.length<_;omega)];show 0+l.length<_;omega
 simp(disch:=first|omega|(simp;omega)) [z23a,h0,h1,h2,z0sb,z8sc,z2Lc,z43b,z3j.v,z3j.of_scs _ z6Ob,z3j.of_scs _ hb,z0qa]
 have hs:(z3j.init.add l).sum.length=32:=z1p _ 32
 refine⟨⟨_,z6Ob,rfl⟩,⟨_,hb,hn,rfl⟩,hs,?_⟩
 rw[z0qa (by simp[hs])]
 simp[hs,sha,List.take_of_length_le]
end Go.Abs
end

section
namespace Go.Abs
theorem z8dd (E:Env):∀ds,z0sb.pre ds→ds.length=z2Oa.n∧awp E z2Oa.body (z4xa z2Oa.res (z0sb.post ds)) (z4H z2Oa.wr ds):=by
 rintro _ rfl
 simp[z2Oa,z0sb,z3j.v,z3j.init,scs,H8.l,z2Ub,z2yb,z0qa,iv,or_imp,forall_and,List.take_of_length_le]
theorem z2Ad (E:Env):∀ds,z6Zc.pre ds→ds.length=z8xa.n∧awp E z8xa.body (z4xa z8xa.res (z6Zc.post ds)) (z4H z8xa.wr ds):=by
 rintro _ ⟨x,k,rfl⟩
 simp[z8xa,z6Zc,z9pc]
theorem z7Sd (E:Env) (h13:E.G 13=z6Zc):∀ds,z0fd.pre ds→ds.length=z83a.n∧awp E z83a.body (z4xa z83a.res (z0fd.post ds)) (z4H z83a.wr ds):=by
 rintro _ ⟨x,i,j,k,rfl⟩
 simp[z83a,z0fd,h13,z6Zc]
theorem z5ad (E:Env) (h13:E.G 13=z6Zc):∀ds,z96a.pre ds→ds.length=z9Da.n∧awp E z9Da.body (z4xa z9Da.res (z96a.post ds)) (z4H z9Da.wr ds):=by
 rintro _ ⟨nl,b,hb,rfl⟩
 simp[z9Da,h13,z6Zc,z96a]
 refine z1g fun Q0 hQ0=> ?_
 refine z1v (fun t:Nat=>⟨[(0,.sl .plain nl 64 (bys b))],[(2,.bp 2 0),(3,.bp 3 0),(11,i64 t)],[(2,some (z7g (z9ua 64))),(3,some (z7g (z4N b t++z9ua (64-t))))]⟩)
  (fun t=>64-t) (· ≤64) 0 rfl (by decide) fun t ht=> ?_
 have hl:=z0Ca b t
 refine z1g fun Q1 hQ1=> ?_
 simp(disch:=first|omega|(simp;omega)) [z6G]
 rw[z4h]
 refine⟨by simp,fun h=> ?_,fun h=> ?_⟩<;>simp at h
 ·simp(disch:=first|omega|(simp;omega)) [z6G]
  rw[z4h]
  refine⟨by simp,fun h16=> ?_,fun h16=> ?_⟩<;>simp at h16
  ·simp(disch:=first|omega|(simp;omega)) [z6G]
   refine⟨by omega,?_⟩
   refine z1g fun Q2 hQ2=> ?_
   refine z1v (fun j:Nat=>⟨[(0,.sl .plain nl 64 (bys b))],[(2,.bp 2 0),(3,.bp 3 0),(4,i64 t),(11,i64 t),(22,.sl .plain nl 4 (bys ((b.drop (4*t)).take 4))),(23,i64 4),(24,i64 j)],
     [(2,some (z7g (z9ua 64))),(3,some (z7g (z4N b t++ldw b t j::z9ua (63-t))))]⟩)
    (fun j=>4-j) (· ≤4) 0 ?_ (by decide) fun j hj=> ?_
   ·have e1:(4*(t:Int)+4).toNat-(4*(t:Int)).toNat=4:=by omega
    have e2:(4*(t:Int)).toNat=4*t:=by omega
    rw[e1,e2,z1ub (show t<64 by omega),ldw]
    rfl
   refine z1g fun Q3 hQ3=> ?_
   simp(disch:=first|omega|(simp;omega)) [z6G]
   rw[z4h]
   refine⟨by simp,fun h4=> ?_,fun h4=> ?_⟩<;>simp at h4
   ·simp(disch:=first|omega|(simp;omega)) [z6G,z8hc,z93a,z64c,z0Yc,z3Ec,z8La,z4Pb]
    repeat' (first|omega|apply And.intro)
    simp(disch:=omega) [hQ3,z6G]
    refine⟨j+1,by omega,by omega,by omega,?_⟩
    rw[ldw]
   ·have e4:j=4:=by omega
    subst e4
    simp(disch:=omega) [hQ3,hQ2,hQ1,z6G]
    refine⟨t+1,by omega,by omega,by omega,?_⟩
    rw[z4N,z8ha,if_pos (by omega),show 64-(t+1)=63-t by omega]
    simp
  ·simp(disch:=first|omega|(simp;omega)) [z6G,h13,z6Zc,z8Id,z7ud,z2kd,z5pd,z93a,z8La,z9vc]
   repeat' (first|omega|apply And.intro)
   simp[hQ1]
   refine⟨t+1,by omega,by omega,by omega,?_⟩
   rw[z4N,z8ha,if_neg (by omega),show 64-(t+1)=63-t by omega,z1ub (by omega),show((t:Int)-16).toNat=t-16 by omega,show((t:Int)-15).toNat=t-15 by omega,show((t:Int)-7).toNat=t-7 by omega,show((t:Int)-2).toNat=t-2 by omega]
   simp[sg0,sg1]
 ·have e:t=64:=by omega
  subst e
  simp(disch:=simp[hl]) [hQ1,hQ0,z0qa,hl,List.take_of_length_le,z9ua]
end Go.Abs
end

section
namespace Go.Abs
theorem z3sd (E:Env) (h4:E.G 4=z0Mb):∀ds,z8sc.pre ds→ds.length=z2Aa.n∧awp E z2Aa.body (z4xa z2Aa.res (z8sc.post ds)) (z4H z2Aa.wr ds):=by
 rintro _ ⟨s,m,hb,rfl⟩
 simp(disch:=first|omega|(simp;omega)) [z2Aa,h4,z0Mb,z8sc,z3j.v,hb,z5Ua,z3j.of_scs]
 refine z1g fun Q0 hQ0=> ?_
 refine z1v (fun k:Nat=>⟨[(0,.agg (scs s))],[(1,st (m.drop k)),(2,.bp 2 0),(4,.bp 4 0)],
   [(2,some (scs (s.add (m.take k)))),(4,some (z7g (z9ua 8)++(bys (z5j 64)++[u64 0])))]⟩)
  (fun k=>m.length-k) (· ≤m.length) 0 (by simp[z3j.add]) (by simp) fun k hk=> ?_
 refine z1g fun Q1 hQ1=> ?_
 have hb':(s.add (m.take k)).b.length=64:=by rw[z7Gb,hb]
 simp(disch:=first|omega|(simp;omega)) [z6G]
 rw[z4h]
 refine⟨by simp,fun h=> ?_,fun h=> ?_⟩<;>simp at h
 ·generalize hs:s.add (m.take k)=s' at*
  generalize hr:m.drop k=r at*
  have hrl:r.length=m.length-k:=by rw[←hr];simp
  have hn:s'.n.toNat% 64<64:=Nat.mod_lt _ (by decide)
  simp(disch:=first|omega|(simp;omega)) [z6G,z5Ua,z99c,z7Cd,z7sd,z9cc,z9Kc,z7Tc,hb']
  refine⟨by omega,by omega,by omega,?_⟩
  refine z1g fun Q2 hQ2=> ?_
  generalize hj:min r.length (64-s'.n.toNat% 64)=j at*
  have hjl:j≤r.length:=by omega
  have hpiece:=z8Qb s' hb' j (r.take j) (by simp;omega) (by omega)
  have hstep:s.add (m.take (k+j))=s'.add (r.take j):=by rw[List.take_add,z3hb,hs,hr]
  have hrest:(r.drop j).take (r.length-j)=m.drop (k+j):=by
   rw[List.take_of_length_le (by simp),←hr,List.drop_drop]
  have hof:UInt64.ofInt (j:Int)=UInt64.ofNat j:=by
   apply UInt64.toNat_inj.1
   rw[z3l,UInt64.toNat_ofNat']
   omega
  rw[z4h]
  refine⟨by simp,fun h30=> ?_,fun h30=> ?_⟩<;>simp at h30
  ·generalize hS:(⟨s'.h,_,_⟩:z3j)=S at*
   have hSb:S.b.length=64:=by rw[←hS];simp[hb'];omega
   simp(disch:=first|omega|(simp;omega)) [h4,z0Mb,z5Ua,z7Cd,z7sd,z9cc,hSb]
   refine⟨⟨_,_,_,hSb,rfl,rfl,rfl⟩,?_⟩
   simp[hQ2,hQ1]
   refine⟨k+j,by omega,by omega,hrest,?_⟩
   rw[hstep,hpiece,if_pos (by omega),←hS,hof]
  ·simp[hQ2,hQ1]
   refine⟨k+j,by omega,by omega,hrest,?_⟩
   rw[hstep,hpiece,if_neg (by omega),hof]
 ·have e:k=m.length:=by omega
  subst e
  have hm:(s.add m).b.length=64:=by rw[z7Gb,hb]
  simp[hQ1,hQ0,z5Ua hm,z03b hm z4yc,z4Hc hm]
end Go.Abs
end

section
namespace Go.Abs
theorem z0Jd:kc.length=64:=rfl
def z5ec (s:List UInt32) (v e:List UInt32):Nat→List UInt32
 |0=>s
 |t+1=>((z5ec s v e t).set t (z8i (z5ec s v e t) t+z8i v t)).set (t+4) (z8i ((z5ec s v e t).set t (z8i (z5ec s v e t) t+z8i v t)) (t+4)+z8i e t)
theorem z1yc (s v e:List UInt32):∀t,(z5ec s v e t).length=s.length
 |0=>rfl
 |t+1=>by simp[z5ec,z1yc s v e t]
theorem z8Ud (s v:H8):z5ec s.l [v.a,v.b,v.c,v.d] [v.e,v.f,v.g,v.h] 4=(s.add v).l:=rfl

theorem z7ad (E:Env) (hT:E.T 0=z7g kc) (h10:E.G 10=z96a) (h11:E.G 11=z0fd):∀ds,z0Mb.pre ds→ds.length=z7Da.n∧awp E z7Da.body (z4xa z7Da.res (z0Mb.post ds)) (z4H z7Da.wr ds):=by
 rintro _ ⟨s,nl,b,hb,rfl⟩
 have hl:=z0Ca b 64
 have hk:=z0Jd
 simp(disch:=first|omega|(simp;omega)) [z7Da,h10,h11,z96a,z0fd,z0Mb,hT]
 refine⟨hb,hl,by omega,?_⟩
 refine z1g fun Q0 hQ0=> ?_
 refine z1v (fun t:Nat=>⟨[(0,.agg (z7g s.l)),(1,.sl .plain nl 64 (bys b))],
   [(2,.bp 2 0),(4,.bp 4 0),(5,.bp 5 0),(6,.bp 6 0),(7,.bp 7 0),(21,.agg (z7g kc)),(22,i64 t)],
   [(2,some (z7g s.l)),(4,some (z7g (z9ua 8))),(5,some (z7g (z4N b 64))),
    (6,some (z7g [(z6Xb (z4N b 64) s t).a,(z6Xb (z4N b 64) s t).b,(z6Xb (z4N b 64) s t).c,(z6Xb (z4N b 64) s t).d])),
    (7,some (z7g [(z6Xb (z4N b 64) s t).e,(z6Xb (z4N b 64) s t).f,(z6Xb (z4N b 64) s t).g,(z6Xb (z4N b 64) s t).h]))]⟩)
  (fun t=>64-t) (· ≤64) 0 ?_ (by decide) fun t ht=> ?_
 ·have e:kc.take 64=kc:=rfl
  simp(disch:=simp[hl]) [z0qa,z6Xb,H8.l,e]
 refine z1g fun Q1 hQ1=> ?_
 simp(disch:=first|omega|(simp;omega)) [z6G]
 rw[z4h]
 refine⟨by simp,fun h=> ?_,fun h=> ?_⟩<;>simp at h
 ·generalize hr:z6Xb (z4N b 64) s t=r at*
  simp(maxSteps:=2000000) (disch:=first|omega|(simp;omega)) [z6G,z2Ub,h11,z0fd,z9Sd,z8ld,z8sd,z0Td,z0md,z5ld,z93a,z1Xb,hl,hk,z0qa]
  repeat' (first|omega|apply And.intro)
  rw[hQ1]
  simp[z2Ub]
  refine⟨t+1,by omega,by omega,by omega,?_⟩
  have sf:∀a b c d x y z w:z0a,splice [a,b,c,d] 0 [x,y,z,w]=[x,y,z,w]:=fun a b c d x y z w=>rfl
  simp only[z6Xb,hr,sf,rnd,and_self]
 ·have e:t=64:=by omega
  subst e
  simp[hQ1,hQ0]
  refine z1g fun Q2 hQ2=> ?_
  generalize hv:z6Xb (z4N b 64) s 64=v at*
  refine z1v (fun t:Nat=>⟨[(0,.agg (z7g s.l)),(1,.sl .plain nl 64 (bys b))],
   [(2,.bp 2 0),(4,.bp 4 0),(6,.bp 6 0),(7,.bp 7 0),(94,i64 t)],
   [(2,some (z7g (z5ec s.l [v.a,v.b,v.c,v.d] [v.e,v.f,v.g,v.h] t))),(4,some (z7g (z9ua 8))),(5,some (z7g (z4N b 64))),
    (6,some (z7g [v.a,v.b,v.c,v.d])),(7,some (z7g [v.e,v.f,v.g,v.h]))]⟩)
   (fun t=>4-t) (· ≤4) 0 rfl (by decide) fun t ht=> ?_
  refine z1g fun Q3 hQ3=> ?_
  simp(disch:=first|omega|(simp;omega)) [z6G]
  rw[z4h]
  have ha:=z1yc s.l [v.a,v.b,v.c,v.d] [v.e,v.f,v.g,v.h] t
  rw[H8.len] at ha
  refine⟨by simp,fun h=> ?_,fun h=> ?_⟩<;>simp at h
  ·simp(disch:=first|omega|(simp;omega)) [z6G,z93a,z8La]
   repeat' (first|omega|apply And.intro)
   have e4:((t:Int)+4).toNat=t+4:=by omega
   rw[e4,z8La (by rw[List.length_set,ha];omega),hQ3]
   simp
   exact⟨t+1,by omega,by omega,by omega,rfl⟩
  ·have e:t=4:=by omega
   subst e
   simp[hQ3,hQ2,z8Ud,z0qa,z5ia,hv]
   rfl
end Go.Abs
end

section
namespace Go.Abs
theorem z5Zd (E:Env) (h1:E.G 1=z8sc):∀ds,z2Lc.pre ds→ds.length=z0Aa.n∧awp E z0Aa.body (z4xa z0Aa.res (z2Lc.post ds)) (z4H z0Aa.wr ds):=by
 rintro _ ⟨s,hb,hn,rfl⟩
 simp(disch:=first|omega|(simp;omega)) [z0Aa,h1,z8sc,z2Lc,z3j.v,hb,z5Ua,z3j.of_scs,z99c]
 refine z1g fun Q0 hQ0=> ?_
 refine z1v (fun k:Nat=>⟨[(0,.agg (scs s))],[(1,.bp 1 0),(2,.bp 2 0),(3,u64 (8*s.n)),(4,.sl (.own 1) (some false) (k+1) (bys (128::z5j k)))],
   [(1,some (scs s)),(2,some (bys (z5j 32)))]⟩)
  (fun k=>z9Xb s.n.toNat-k) (· ≤z9Xb s.n.toNat) 0 rfl (by simp) fun k hk=> ?_
 have hz:=z9kc s.n.toNat
 have hzo:=z7lc s.n.toNat
 refine z1g fun Q1 hQ1=> ?_
 simp(disch:=first|omega|(simp;omega)) [z6G,z5Ua,z99c,hb]
 rw[z4h]
 refine⟨by simp,fun h=> ?_,fun h=> ?_⟩<;>simp at h<;>rw[Int.tmod_eq_emod_of_nonneg (by omega)] at h
 ·simp(disch:=first|omega|(simp;omega)) [z6G,hQ1]
  clear hQ0 hQ1
  refine⟨by omega,?_⟩
  refine⟨k+1,by omega,by omega,by omega,?_⟩
  rw[show [u8 0]=bys [0] from rfl,←z4Na,←z5Xb]
  simp
 ·have e:k=z9Xb s.n.toNat:=by omega
  subst e
  simp[hQ1,hQ0]
  refine z1g fun Q2 hQ2=> ?_
  refine z1v (fun i:Nat=>⟨[(0,.agg (scs s))],[(1,.bp 1 0),(2,.bp 2 0),(3,u64 (8*s.n)),(4,.sl (.own 1) (some false) (z9Xb s.n.toNat+1+i) (bys (128::z5j (z9Xb s.n.toNat)++be8 (8*s.n) i))),(23,i64 i)],
    [(1,some (scs s)),(2,some (bys (z5j 32)))]⟩)
   (fun i=>8-i) (· ≤8) 0 (by simp[be8]) (by decide) fun i hi=> ?_
  have hbe:=z7Kb (8*s.n) i
  refine z1g fun Q3 hQ3=> ?_
  simp(disch:=first|omega|(simp;omega)) [z6G]
  rw[z4h]
  refine⟨by simp,fun h=> ?_,fun h=> ?_⟩<;>simp at h
  ·have e7:((56:Int)-8*(i:Int)).toNat=56-8*i:=by omega
   simp(disch:=first|omega|(simp;omega)) [z6G,e7]
   repeat' (first|omega|apply And.intro)
   rw[hQ3]
   simp
   refine⟨i+1,by omega,by omega,⟨by omega,?_⟩,by omega⟩
   rw[be8,show [u8 (z5n (8*s.n) (56-8*i)).toUInt8]=bys [(z5n (8*s.n) (56-8*i)).toUInt8] from rfl,←z4Na]
   simp
  ·have e:i=8:=by omega
   subst e
   simp(disch:=first|omega|(simp;omega)) [hQ3,hQ2,h1,z8sc,z3j.v,z5Ua,z4Hc,z03b,hb,z3j.of_scs,z7Gb]
   generalize hS:s.add (128::(z5j (z9Xb s.n.toNat)++be8 (8*s.n) 8))=S at*
   have hSb:S.b.length=64:=by rw[←hS,z7Gb,hb]
   have hsum:s.sum=z6ba S.h 32:=by rw[←hS];rfl
   rw[z03b hSb (z5Ua hb),hsum]
   clear hQ1 hQ2 hQ3 hQ0
   refine⟨?_,⟨s,hb,rfl⟩,z5Ua hSb,?_⟩
   ·have:=z7Kb (8*s.n) 8
    simp[this]
   refine z1g fun Q4 hQ4=> ?_
   refine z1v (fun i:Nat=>⟨[(0,.agg (scs s))],[(1,.bp 1 0),(2,.bp 2 0),(6,.bp 6 0),(40,i64 i)],
     [(1,some (scs S)),(2,some (bys (z5j 32))),(6,some (bys (z6ba S.h i++z5j (32-i))))]⟩)
    (fun i=>32-i) (· ≤32) 0 rfl (by decide) fun i hi=> ?_
   have ho:=z1p S.h i
   refine z1g fun Q5 hQ5=> ?_
   simp(disch:=first|omega|(simp;omega)) [z6G]
   rw[z4h]
   refine⟨by simp,fun h=> ?_,fun h=> ?_⟩<;>simp at h
   ·have e4:(i:Int).tmod 4=((i% 4:Nat):Int):=by rw[Int.tmod_eq_emod_of_nonneg (by omega)];rfl
    have e5:((i:Int)/4).toNat=i/4:=by omega
    have e6:((24:Int)-8*((i% 4:Nat):Int)).toNat=24-8*(i% 4):=by omega
    simp(disch:=first|omega|(simp;omega)) [z6G,e4,e5,z4Nd,z5Ua hSb]
    refine⟨by omega,by omega,by omega,by omega,by omega,?_⟩
    have e7:((24:Int)-8*((i:Int)% 4)).toNat=24-8*(i% 4):=by omega
    rw[e7,z7Fb (by simp;omega),z83b (by omega),z4Pb ho.symm,hQ5]
    simp
    refine⟨i+1,by omega,by omega,by omega,?_⟩
    rw[z6ba,show 32-(i+1)=32-1-i by omega]
    simp
   ·have e:i=32:=by omega
    subst e
    simp(disch:=simp[ho]) [hQ5,hQ4,z0qa,ho,List.take_of_length_le,z5j]
end Go.Abs
end

section
namespace Go.Abs
def z9Wc:ItC:=z2sc z3Gb
theorem z3Bd (E:Env) (h303:E.G 303=z3Gb):∀x y l,z9Wc.pre x y→x.length=z3sa.nx∧y.length=z3sa.ny∧z6jb E l (z9Wc.el x y) z3sa.body (itQ (z9Wc.el x y)) (0,false) (z9Vc l [] x y):=z6Ic E z3Gb h303
end Go.Abs
end

section
namespace Go.Abs
theorem z78d (E:Env) (h0:E.G 0=z0sb) (h1:E.G 1=z8sc) (h2:E.G 2=z2Lc) (h7:E.G 7=z7lb):∀ds,ofC.pre ds→ds.length=z5fb.n∧awp E z5fb.body (z4xa z5fb.res (ofC.post ds)) (z4H z5fb.wr ds):=by
 rintro _ ⟨tag,nl,parts,hl,rfl⟩
 simp(maxSteps:=1000000) (disch:=first|omega|(simp;done)|(simp;omega)) [z6G,z8pa,z7pa,z5fb,h0,h1]
 refine z1g fun Q0 hQ0=> ?_
 refine z1v (fun i:Nat=>⟨[(0,i64 tag),(1,.sl .plain nl parts.length (sts parts))],[(4,.bp 4 0),(5,.bp 5 0),(15,.sl .plain nl parts.length (sts parts)),(16,i64 parts.length),(17,i64 i)],
   [(4,some (bys (z5j 16))),(5,some (svc (z4ga tag (parts.take i))))]⟩)
  (fun i=>parts.length-i) (· ≤parts.length) 0 rfl (by simp) fun i hi=> ?_
 have hlen:=z1Ab parts
 refine z1g fun Q1 hQ1=> ?_
 simp(maxSteps:=1000000) (disch:=first|omega|(simp;done)|(simp;omega)) [z6G,z8pa,z7pa]
 rw[z4h]
 refine⟨by simp,fun h=> ?_,fun h=> ?_⟩<;>simp at h
 ·have hb:=z3Ub (l:=parts) (i:=i) (by omega)
  simp(maxSteps:=1000000) (disch:=first|omega|(simp;done)|(simp;omega)) [z6G,z8pa,z7pa,z1id,h7,h1,z2Bb]
  repeat' (first|omega|apply And.intro)
  simp[hQ1]
  refine⟨i+1,by omega,by omega,by omega,?_⟩
  rw[z4ga,z4ga,z8Da _ _ [] (by omega)]
  rfl
 ·have e:i=parts.length:=by omega
  subst e
  have hi:(z4ga tag parts).length<1099511627776:=by
   have:=z3La hl
   simp only[z4ga,List.length_cons];omega
  simp(maxSteps:=1000000) (disch:=first|omega|(simp;done)|(simp;omega)) [z6G,z8pa,z7pa,hQ1,hQ0,h2,z9xd,z5xa]
  rw[z0f,List.take_take,Nat.min_self]
end Go.Abs
end

section
namespace Go.Abs
theorem z6Od (E:Env):∀ds,z4Oa.pre ds→ds.length=z9za.n∧awp E z9za.body (z4xa z9za.res (z4Oa.post ds)) (z4H z9za.wr ds):=by
 rintro _ ⟨nl,nl',a,b,ha,rfl⟩
 by_cases h:a.length=b.length
 rotate_left
 ·have:(a==b)=false:=by simpa using fun e:a=b=>h (by rw[e])
  have h':¬((a.length:Int)=b.length):=by omega
  simp(maxSteps:=1000000) (disch:=first|omega|(simp;done)|(simp;omega)) [z6G,z8pa,z7pa,z9za,z2Ua,z6Ua,h',kT,kF,z4Oa,this]
 have h':((a.length:Int)=b.length):=by omega
 simp(maxSteps:=1000000) (disch:=first|omega|(simp;done)|(simp;omega)) [z6G,z8pa,z7pa,z9za,z2Ua,z6Ua,z4fb,h',kT,kF]
 refine z1g fun Q0 hQ0=> ?_
 simp(maxSteps:=1000000) (disch:=first|omega|(simp;done)|(simp;omega)) [z6G,z8pa,z7pa,z5hb]
 refine z1v (fun i:Nat=>⟨[(0,.sl .plain nl a.length (z6Ba a)),(1,.sl .plain nl' b.length (z6Ba b))],[(12,i64 a.length),(13,i64 i)],[]⟩)
  (fun i=>a.length-i) (fun i=>i≤a.length∧a.take i=b.take i) 0 (by simp[h']) (by simp) fun i hi=> ?_
 obtain⟨hi,he⟩:=hi
 refine z1g fun Q1 hQ1=> ?_
 by_cases h1':i<a.length
 ·have h3:i<b.length:=by omega
  by_cases h2:atI a i=atI b i
  ·simp(maxSteps:=1000000) (disch:=first|omega|(simp;done)|(simp;omega)) [z6G,z8pa,z7pa,z9Ja,z1Ka,z0Ua,z4Ua,z9Va,kT,kF,dT,dF,z4qb,h1',h2,hQ1]
   have h4:a[i]=b[i]:=by simpa[atI,List.getD,List.getElem?_eq_getElem h1',List.getElem?_eq_getElem h3] using h2
   exact⟨by omega,by omega,by omega,i+1,by omega,⟨by omega,by rw[List.take_succ_eq_append_getElem h1',List.take_succ_eq_append_getElem h3,he,h4]⟩,by omega⟩
  ·have:(a==b)=false:=by simpa using fun e:a=b=>h2 (by rw[e])
   simp(maxSteps:=1000000) (disch:=first|omega|(simp;done)|(simp;omega)) [z6G,z8pa,z7pa,z9Ja,z1Ka,z0Ua,z4Ua,z9Va,kT,kF,dT,dF,z4qb,h1',h2,hQ1,hQ0,z4Oa,this]
   omega
 ·have e:i=a.length:=by omega
  subst e
  have:(a==b)=true:=by
   rw[List.take_length,h,List.take_length] at he
   simpa using he
  simp(maxSteps:=1000000) (disch:=first|omega|(simp;done)|(simp;omega)) [z6G,z8pa,z7pa,z9Ja,z1Ka,kT,kF,dT,dF,hQ1,hQ0,z3eb,z4Oa,this]
end Go.Abs
end

section
namespace Go.Abs
set_option maxRecDepth 100000
def z1Aa:z1ka:=
 {n:=2,wr:=[],res:=[.cell 4 (some 16) 4],body:=YR [4] [.norm [4]] [Yz 4 4 16] (YR [4] [.norm [4]] [Ym 5 0,Ym 6 1,YK 7 21 5 6,Yk 8 28 7,Ys 16 4 4 8] .ret)}
def z6wa:z1ka:=
 {n:=2,wr:=[],res:=[.t 4],body:=Yr [] [Yo 4 (.mv true (.c (.sl (.own 1) none 0 [])))] (Yr [5] [Ym 7 0,Yo 8 (.toInt .u8 (.s 7)),Yo 9 (.buildSl 1 1 [u8 0] [(0,1,.s 8)]),YM 5 9] (Yq (Yr [5,6] [Yc 6 0] (.block 0 (.loop (Yq (Yr [5,6,13] [Ym 10 6,Ym 11 1,Yn 12 11,Yb 13 .lss 10 12] (Yd 13 (Yy [5,6]) (YY [5]))) (Yq (.block 1 (Yu [5,6] [YM 16 5,Ym 17 1,Ym 18 6,Yi 19 1 17 18,Yj 20 19,Yk 21 29 20,Yo 22 (.append 1 1 false (some false) none 16 (.s 21)),YM 5 22])) (Yu [5,6] [Ym 14 6,YB 15 .add 14 1,Ym 6 15])))))) (Yr [4] [YM 23 5,YM 4 23] .ret)))}
def z1zb:z1ka:=
 {n:=1,wr:=[],res:=[.t 2],body:=YR [1] [.norm [1]] [Yx 1 1 16 0,Yo 2 (.mv false (.c (st [])))] (Yr [1,3] [Yo 3 (.mv true (.c (.sl (.own 1) none 0 [])))] (Yq (Yr [1,3,4] [Yc 4 0] (.block 0 (.loop (Yq (Yr [1,3,4,6] [Ym 5 4,YB 6 .lss 5 16] (Yd 6 (Yy [1,3,4]) (YY [3]))) (Yq (.block 1 (.region [1,3,4] [.norm [1]] [YM 9 3,Ym 10 4,Ya 11 16 1 1 10,Yl 12 1 11,Yo 13 (.buildSl 1 1 [u8 0] [(0,1,.s 12)]),Yo 14 (.append 1 1 false none none 9 (.s 13)),YM 3 14])) (Yu [1,3,4] [Ym 7 4,YB 8 .add 7 1,Ym 4 8])))))) (Yr [2] [YM 15 3,Yo 16 (.toStr none (.s 15)),Ym 2 16] .ret)))}
def z8va:z1ka:=
 {n:=1,wr:=[],res:=[.t 2],body:=Yr [] [Yo 2 (.mv true (.c (.sl (.own 1) none 0 [])))] (Yr [3] [Yo 6 (.buildSl 1 0 [] []),Ym 7 0,Yo 8 (.append 1 1 false (some false) none 6 (.s 7)),YM 3 8] (Yr [3] [YM 9 3,Yo 10 (.buildSl 1 1 [u8 0] [(0,1,.c (u8 128))]),Yo 11 (.append 1 1 false (some false) none 9 (.s 10)),YM 3 11] (Yq (.block 0 (.loop (Yq (Yr [3,15] [Ym 12 3,Yn 13 12,YB 14 .rem 13 64,YB 15 .neq 14 56] (Yd 15 (Yy [3]) (YY [3]))) (.block 1 (Yu [3] [YM 16 3,Yo 17 (.buildSl 1 1 [u8 0] [(0,1,.c (u8 0))]),Yo 18 (.append 1 1 false (some false) none 16 (.s 17)),YM 3 18]))))) (Yr [3,4] [Ym 19 0,Yn 20 19,Yo 21 (.toInt .u64 (.s 20)),Yo 22 (.bin .mul (.c (u64 8)) (.s 21)),Ym 4 22] (Yq (Yr [3,4,5] [Yc 5 0] (.block 2 (.loop (Yq (Yr [3,4,5,24] [Ym 23 5,YB 24 .lss 23 8] (Yd 24 (Yy [3,4,5]) (.ghost (.keep [3]) (.exit 2)))) (Yq (.block 3 (Yu [3,4,5] [YM 27 3,Ym 28 4,Ym 29 5,Yo 30 (.bin .mul (.c (i64 8)) (.s 29)),Yo 31 (.bin .sub (.c (i64 56)) (.s 30)),Yb 32 .shr 28 31,Yo 33 (.toInt .u8 (.s 32)),Yo 34 (.buildSl 1 1 [u8 0] [(0,1,.s 33)]),Yo 35 (.append 1 1 false (some false) none 27 (.s 34)),YM 3 35])) (Yu [3,4,5] [Ym 25 5,YB 26 .add 25 1,Ym 5 26])))))) (Yr [2] [YM 36 3,YM 2 36] .ret))))))}
def z5wa:z1ka:=
 {n:=1,wr:=[],res:=[.cell 2 (some 64) 2],body:=YR [2] [.norm [2]] [Yo 2 (.alloc 2 (z7g (z9ua 64)))] (YR [2,3] [.norm [2,3]] [Yo 3 (.alloc 3 (z7g (z9ua 64)))] (Yq (Yr [2,3,4] [Yc 4 0] (.block 0 (.loop (Yq (Yr [2,3,4,9] [Ym 8 4,YB 9 .lss 8 16] (Yd 9 (Yy [2,3,4]) (YY [2,3]))) (Yq (.block 1 (.region [2,3,4] [.norm [2,3]] [Ym 12 4,Ym 13 0,Ym 14 4,Yo 15 (.bin .mul (.c (i64 4)) (.s 14)),Yi 16 1 13 15,Yj 17 16,Yo 18 (.toInt .u32 (.s 17)),Yo 19 (.bin .shl (.s 18) (.c (u64 24))),Ym 20 0,Ym 21 4,Yo 22 (.bin .mul (.c (i64 4)) (.s 21)),YB 23 .add 22 1,Yi 24 1 20 23,Yj 25 24,Yo 26 (.toInt .u32 (.s 25)),Yo 27 (.bin .shl (.s 26) (.c (u64 16))),Yb 28 .or 19 27,Ym 29 0,Ym 30 4,Yo 31 (.bin .mul (.c (i64 4)) (.s 30)),YB 32 .add 31 2,Yi 33 1 29 32,Yj 34 33,Yo 35 (.toInt .u32 (.s 34)),Yo 36 (.bin .shl (.s 35) (.c (u64 8))),Yb 37 .or 28 36,Ym 38 0,Ym 39 4,Yo 40 (.bin .mul (.c (i64 4)) (.s 39)),YB 41 .add 40 3,Yi 42 1 38 41,Yj 43 42,Yo 44 (.toInt .u32 (.s 43)),Yb 45 .or 37 44,Ya 46 64 1 3 12,YS 3 46 45])) (Yu [2,3,4] [Ym 10 4,YB 11 .add 10 1,Ym 4 11])))))) (Yq (Yr [2,3,5] [Yc 5 16] (.block 2 (.loop (Yq (Yr [2,3,5,48] [Ym 47 5,YB 48 .lss 47 64] (Yd 48 (Yy [2,3,5]) (.ghost (.keep [2,3]) (.exit 2)))) (Yq (.block 3 (YR [2,3,5,6] [.norm [2,3]] [Ym 51 5,YB 52 .sub 51 15,Ya 53 64 1 3 52,Yl 54 3 53,Yo 55 (.call 26 [.s 54,.c (i64 7)] []),Ym 56 5,YB 57 .sub 56 15,Ya 58 64 1 3 57,Yl 59 3 58,Yo 60 (.call 26 [.s 59,.c (i64 18)] []),Yb 61 .xor 55 60,Ym 62 5,YB 63 .sub 62 15,Ya 64 64 1 3 63,Yl 65 3 64,Yo 66 (.bin .shr (.s 65) (.c (u64 3))),Yb 67 .xor 61 66,Ym 6 67] (YR [2,3,5,6,7] [.norm [2,3]] [Ym 68 5,YB 69 .sub 68 2,Ya 70 64 1 3 69,Yl 71 3 70,Yo 72 (.call 26 [.s 71,.c (i64 17)] []),Ym 73 5,YB 74 .sub 73 2,Ya 75 64 1 3 74,Yl 76 3 75,Yo 77 (.call 26 [.s 76,.c (i64 19)] []),Yb 78 .xor 72 77,Ym 79 5,YB 80 .sub 79 2,Ya 81 64 1 3 80,Yl 82 3 81,Yo 83 (.bin .shr (.s 82) (.c (u64 10))),Yb 84 .xor 78 83,Ym 7 84] (.region [2,3,5] [.norm [2,3]] [Ym 85 5,Ym 86 5,YB 87 .sub 86 16,Ya 88 64 1 3 87,Yl 89 3 88,Ym 90 6,Yb 91 .add 89 90,Ym 92 5,YB 93 .sub 92 7,Ya 94 64 1 3 93,Yl 95 3 94,Yb 96 .add 91 95,Ym 97 7,Yb 98 .add 96 97,Ya 99 64 1 3 85,YS 3 99 98])))) (Yu [2,3,5] [Ym 49 5,YB 50 .add 49 1,Ym 5 50])))))) (YR [2] [.norm [2,3]] [YL 100 64 3 3,Ys 64 2 2 100] .ret))))}
def z7xa:z1ka:=
 {n:=2,wr:=[],res:=[.t 4],body:=Yr [] [Yo 4 (.mv false (.c (u32 0)))] (Yr [4] [Ym 5 0,Ym 6 1,Yb 7 .shr 5 6,Ym 8 0,Ym 9 1,Yo 10 (.bin .sub (.c (i64 32)) (.s 9)),Yb 11 .shl 8 10,Yb 12 .or 7 11,Ym 4 12] .ret)}
def z8wa:z1ka:=
 {n:=1,wr:=[],res:=[.cell 2 (some 16) 2],body:=YR [2] [.norm [2]] [Yz 2 2 16] (YR [2,3] [.norm [2,3]] [Ym 6 0,Yk 7 15 6,Yz 3 3 32,Ys 32 3 3 7] (YR [2,3,4] [.norm [2,3,4]] [Yo 8 (.build (bys (z5j 16)) []),Yz 4 4 16,Ys 16 4 4 8] (Yq (Yr [2,3,4,5] [Yc 5 0] (.block 0 (.loop (Yq (Yr [2,3,4,5,10] [Ym 9 5,YB 10 .lss 9 16] (Yd 10 (Yy [2,3,4,5]) (YY [2,4]))) (Yq (.block 1 (.region [2,3,4,5] [.norm [2,3,4]] [Ym 13 5,Ym 14 5,Ya 15 32 1 3 14,Yl 16 3 15,Ya 17 16 1 4 13,YS 4 17 16])) (Yu [2,3,4,5] [Ym 11 5,YB 12 .add 11 1,Ym 5 12])))))) (YR [2] [.norm [2,3,4]] [YL 18 16 4 4,Ys 16 2 2 18] .ret))))}
def z1ua:z1ka:=
 {n:=1,wr:=[],res:=[.t 2],body:=Yr [] [Yo 2 (.mv true (.c (.sl (.own 1) none 0 [])))] (Yr [2] [Ym 3 0,Yo 4 (.len true (.s 3)),Yk 5 30 4,Ym 6 0,Yo 7 (.toBytes (.s 6)),Yo 8 (.append 1 1 false none none 5 (.s 7)),YM 2 8] .ret)}
end Go.Abs
end
