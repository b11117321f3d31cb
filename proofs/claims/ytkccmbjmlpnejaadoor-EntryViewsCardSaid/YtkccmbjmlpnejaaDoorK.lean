/- Lemmas: an abstract interpreter, and what the functions compute. -/
import Derived.Test.YtkccmbjmlpnejaaDoorE
import Derived.Test.YtkccmbjmlpnejaaDoorT
import Derived.Test.YtkccmbjmlpnejaaDoorH
set_option linter.unusedSimpArgs false
set_option linter.unusedVariables false
set_option linter.unusedSectionVars false
section
namespace Go.Abs
@[simp] theorem z6sc (r:Row):z2h (z9ia r)=true:=by simp[z9ia,z2h]
end Go.Abs
end

section
namespace Go.Abs
@[simp] theorem z7Wc (c:Cmd) (nl:Option Bool):(z1q c nl).length=8:=rfl
@[simp] theorem z1Bc (c:Cmd) (nl:Option Bool):(∀x∈z1q c nl,z2d x)↔True:=by simp[z1q]
@[simp] theorem z5Wc (c:Cmd) (nl:Option Bool):(∀x∈z1q c nl,z1f x=false)↔True:=by simp[z1q]
@[simp] theorem z5wc (c:Cmd) (nl:Option Bool):(z1q c nl).take 8=z1q c nl:=rfl
@[simp] theorem z1Dc (c:Cmd) (nl:Option Bool):z2h (z1q c nl)=true:=by simp[z1q,z2h]
@[simp] theorem z6Vc (r:Row):(z9ia r).length=4:=rfl
@[simp] theorem z3yc (r:Row):(∀c∈z9ia r,z2d c)↔True:=by simp[z9ia]
@[simp] theorem z3Kc (r:Row):(∀c∈z9ia r,z1f c=false)↔True:=by simp[z9ia]
@[simp] theorem z6Fc (r:Row):z7g (z9ia r)=[]:=by simp[z9ia,z7g]
@[simp] theorem z1vc (r:Row):(z9ia r).take 4=z9ia r:=rfl
@[simp] theorem rowA_1 (r:Row):hdA ((z9ia r).drop 1)=i64 r.uses:=rfl
@[simp] theorem z9Wc (r:Row):hdA (z9ia r).tail=i64 r.uses:=rfl
@[simp] theorem rowA_2 (r:Row):hdA ((z9ia r).drop 2)=i64 r.least:=rfl
@[simp] theorem rowA_3 (r:Row):hdA ((z9ia r).drop 3)=i64 r.most:=rfl
@[simp] theorem z2Kc (r:Row):z0c (z9ia r)=true:=by simp[z9ia,z0c]
end Go.Abs
end

section
namespace Go.Abs
theorem z6Ec {c:Cmd} (h:c.ok):∀x∈six c,z2l x:=by
 obtain⟨h1,h2,h3,h4,h5,h6,_⟩:=h
 intro x hx
 simp only[six,List.mem_cons,List.not_mem_nil,or_false] at hx
 rcases hx with rfl|rfl|rfl|rfl|rfl|rfl<;>assumption
theorem z8pa {c:Cmd} (h:c.small):(z4Z c).length≤2000000000:=by
 have h6:=z7f (z6Ec h.1)
 have hl:=z7f (l:=c.list) h.1.2.2.2.2.2.2
 have e1:=z4l (n:=(c.data.length:Int)) (by have:=h.2.1;constructor<;>omega)
 have e2:=z4l (n:=(c.list.length:Int)) (by have:=h.2.2;constructor<;>omega)
 have:=h.2.1
 have:=h.2.2
 simp only[six,List.length_cons,List.length_nil] at h6
 simp only[z4Z,z3U,z0q,List.length_append]
 simp only[six]
 omega
theorem z7Ic (E:Env) (h130:E.G 130=z1ha) (h8:E.G 8=ofC):∀ds,z8da.pre ds→ds.length=z0l.n∧awp E z0l.body (z1A z0l.res (z8da.post ds)) (z9c z0l.wr ds):=by
 rintro _ ⟨c,nl,hc,rfl⟩
 rw[z2ia]
 have hl:=z8pa hc
 have hp:ofC.pre [i64 7,.sl .plain (some false) 1 [st (z4Z c)]]=True:=z6Qb (l:=[z4Z c]) rfl (by rw[z45c];omega)
 simp(maxSteps:=1000000) (disch:=first|omega|(simp;done)|(simp;omega)) [z9a,z1a,z0a,z0l,z1T,h130,z7Ga hc,h8,hp,z6n,z9q,z0z,z1Ea,z8A]
set_option maxHeartbeats 8000000 in
theorem z8vb (E:Env) (h132:E.G 132=z85):∀ds,z4na.pre ds→ds.length=z3o.n∧awp E z3o.body (z1A z3o.res (z4na.post ds)) (z9c z3o.wr ds):=by
 rintro _ ⟨c,d,nl,nl',hc,hd,rfl⟩
 rw[z0ya]
 obtain⟨k1,k2,k3,k4,k5,k6,dt,ls⟩:=c
 obtain⟨j1,j2,j3,j4,j5,j6,dt',ls'⟩:=d
 have hll:=hc.2.2
 simp only at hll
 simp(maxSteps:=1000000) (disch:=first|omega|(simp;done)|(simp;omega)) [z9a,z1a,z0a,z3o,z72,z1q]
 refine z3a fun Q0 hQ0=> ?_
 simp only[z2mb] at hQ0
 cases c1:k1==j1
 ·rw[c1] at hQ0
  simp(maxSteps:=1000000) (disch:=first|omega|(simp;done)|(simp;omega)) [z9a,z1a,z0a,z6i,c1,hQ0]
 rw[c1] at hQ0
 cases c2:k2==j2
 ·rw[c2] at hQ0
  simp(maxSteps:=1000000) (disch:=first|omega|(simp;done)|(simp;omega)) [z9a,z1a,z0a,z6i,c1,c2,hQ0]
 rw[c2] at hQ0
 cases c3:k3==j3
 ·rw[c3] at hQ0
  simp(maxSteps:=1000000) (disch:=first|omega|(simp;done)|(simp;omega)) [z9a,z1a,z0a,z6i,c1,c2,c3,hQ0]
 rw[c3] at hQ0
 cases c4:k4==j4
 ·rw[c4] at hQ0
  simp(maxSteps:=1000000) (disch:=first|omega|(simp;done)|(simp;omega)) [z9a,z1a,z0a,z6i,c1,c2,c3,c4,hQ0]
 rw[c4] at hQ0
 cases c5:k5==j5
 ·rw[c5] at hQ0
  simp(maxSteps:=1000000) (disch:=first|omega|(simp;done)|(simp;omega)) [z9a,z1a,z0a,z6i,c1,c2,c3,c4,c5,hQ0]
 rw[c5] at hQ0
 cases c6:k6==j6
 ·rw[c6] at hQ0
  simp(maxSteps:=1000000) (disch:=first|omega|(simp;done)|(simp;omega)) [z9a,z1a,z0a,z6i,c1,c2,c3,c4,c5,c6,hQ0]
 rw[c6] at hQ0
 cases c7:dt==dt'
 ·rw[c7] at hQ0
  have d7:(dt=dt')=False:=by simpa using c7
  simp(maxSteps:=1000000) (disch:=first|omega|(simp;done)|(simp;omega)) [z9a,z1a,z0a,z6i,c1,c2,c3,c4,c5,c6,d7,hQ0]
 rw[c7] at hQ0
 have d7:(dt=dt')=True:=by simpa using c7
 simp(maxSteps:=1000000) (disch:=first|omega|(simp;done)|(simp;omega)) [z9a,z1a,z0a,z6i,c1,c2,c3,c4,c5,c6,d7,h132,z5Ha,hQ0]
end Go.Abs
end

section
namespace Go.Abs
theorem z5oc (E:Env):∀ds,z85.pre ds→ds.length=z1m.n∧awp E z1m.body (z1A z1m.res (z85.post ds)) (z9c z1m.wr ds):=by
 rintro _ ⟨nl,nl',a,b,ha,rfl⟩
 by_cases h:a.length=b.length
 rotate_left
 ·have:(a==b)=false:=by simpa using fun e:a=b=>h (by rw[e])
  have h':¬((a.length:Int)=b.length):=by omega
  simp(maxSteps:=1000000) (disch:=first|omega|(simp;done)|(simp;omega)) [z9a,z1a,z0a,z1m,z1K,z0K,h',kT,kF,z85,this]
 have h':((a.length:Int)=b.length):=by omega
 simp(maxSteps:=1000000) (disch:=first|omega|(simp;done)|(simp;omega)) [z9a,z1a,z0a,z1m,z1K,z0K,z92,h',kT,kF]
 refine z3a fun Q0 hQ0=> ?_
 simp(maxSteps:=1000000) (disch:=first|omega|(simp;done)|(simp;omega)) [z9a,z1a,z0a,z63]
 refine z4d (fun i:Nat=>⟨[(0,.sl .plain nl a.length (z4j a)),(1,.sl .plain nl' b.length (z4j b))],[(12,i64 a.length),(13,i64 i)],[]⟩)
  (fun i=>a.length-i) (fun i=>i≤a.length∧a.take i=b.take i) 0 (by simp[h']) (by simp) fun i hi=> ?_
 obtain⟨hi,he⟩:=hi
 refine z3a fun Q1 hQ1=> ?_
 by_cases h1':i<a.length
 ·have h3:i<b.length:=by omega
  by_cases h2:atI a i=atI b i
  ·simp(maxSteps:=1000000) (disch:=first|omega|(simp;done)|(simp;omega)) [z9a,z1a,z0a,z7z,z6z,z9L,z6K,z2K,kT,kF,dT,dF,z1ea,h1',h2,hQ1]
   have h4:a[i]=b[i]:=by simpa[atI,List.getD,List.getElem?_eq_getElem h1',List.getElem?_eq_getElem h3] using h2
   exact⟨by omega,by omega,by omega,i+1,by omega,⟨by omega,by rw[List.take_succ_eq_append_getElem h1',List.take_succ_eq_append_getElem h3,he,h4]⟩,by omega⟩
  ·have:(a==b)=false:=by simpa using fun e:a=b=>h2 (by rw[e])
   simp(maxSteps:=1000000) (disch:=first|omega|(simp;done)|(simp;omega)) [z9a,z1a,z0a,z7z,z6z,z9L,z6K,z2K,kT,kF,dT,dF,z1ea,h1',h2,hQ1,hQ0,z85,this]
   omega
 ·have e:i=a.length:=by omega
  subst e
  have:(a==b)=true:=by
   rw[List.take_length,h,List.take_length] at he
   simpa using he
  simp(maxSteps:=1000000) (disch:=first|omega|(simp;done)|(simp;omega)) [z9a,z1a,z0a,z7z,z6z,kT,kF,dT,dF,hQ1,hQ0,z91,z85,this]
end Go.Abs
end

section
namespace Go.Abs
@[simp] theorem z01c (ps:List (Bool×Option Bool×List UInt8)):(mls ps).length=ps.length:=by simp[mls]
def atP (ps:List (Bool×Option Bool×List UInt8)) (i:Nat):Bool×Option Bool×List UInt8:=ps.getD i (true,none,[])
theorem z7lb {ps:List (Bool×Option Bool×List UInt8)} {i:Nat} (h:i<ps.length):atP ps i=ps[i]:=by simp[atP,List.getD,List.getElem?_eq_getElem h]
@[simp] theorem z17c (b:Bool) (nl:Option Bool) (n:Nat) (cs:List z2a):dem (.sl (mdA b) nl n cs)= .sl .plain nl n cs:=by cases b<;>rfl
theorem z0Pb {ps:List (Bool×Option Bool×List UInt8)} {i:Nat} (h:i<ps.length):hdA ((mls ps).drop i)= .sl (mdA (atP ps i).1) (atP ps i).2.1 (atP ps i).2.2.length (bys (atP ps i).2.2):=by
 rw[mls,←List.map_drop,List.drop_eq_getElem_cons h,List.map_cons,z7lb h]
 rfl
def z0Ha (ps:List (Bool×Option Bool×List UInt8)):Nat:=(ps.map fun p=>p.2.2.length).sum
theorem z97b (ps:List (Bool×Option Bool×List UInt8)):z6Rb (ps.map (·.2))=z0Ha ps:=by rw[z6Rb,z0Ha,List.map_map];rfl
theorem z5Ya (a b:List (Bool×Option Bool×List UInt8)):z0Ha (a++b)=z0Ha a+z0Ha b:=by
 induction a with
 |nil=>simp[z0Ha]
 |cons x a ih=>simp only[z0Ha,List.cons_append,List.map_cons,List.sum_cons] at ih⊢;omega
theorem z8wa {ps:List (Bool×Option Bool×List UInt8)} {i:Nat} (h:i<ps.length):z0Ha (ps.take (i+1))=z0Ha (ps.take i)+(atP ps i).2.2.length:=by
 rw[List.take_succ_eq_append_getElem h,z5Ya,z7lb h]
 rfl
theorem z0V (ps:List (Bool×Option Bool×List UInt8)) (i:Nat):z0Ha (ps.take i)≤z0Ha ps:=by
 have:=z5Ya (ps.take i) (ps.drop i)
 rw[List.take_append_drop] at this
 omega
theorem z7Ea {ps:List (Bool×Option Bool×List UInt8)} {i:Nat} (h:i<ps.length):(ps.take (i+1)).flatMap (·.2.2)=(ps.take i).flatMap (·.2.2)++(atP ps i).2.2:=by
 rw[List.take_succ_eq_append_getElem h,List.flatMap_append,List.flatMap_cons,List.flatMap_nil,List.append_nil,z7lb h]
theorem z3Zb (ps:List (Bool×Option Bool×List UInt8)):(ps.flatMap (·.2.2)).length=z0Ha ps:=by simp[z0Ha,List.length_flatMap]
theorem z7eb (E:Env) (h139:E.G 139=z25a):∀ds,z6x.pre ds→ds.length=z4m.n∧awp E z4m.body (z1A z4m.res (z6x.post ds)) (z9c z4m.wr ds):=by
 rintro _ ⟨nl,ps,ht,hps,rfl⟩
 rw[z18]
 rw[z97b] at ht
 simp(maxSteps:=1000000) (disch:=first|omega|(simp;done)|(simp;omega)) [z9a,z1a,z0a,z4m,z0W,z9U]
 refine z3a fun Q0 hQ0=> ?_
 simp(maxSteps:=1000000) (disch:=first|omega|(simp;done)|(simp;omega)) [z9a,z1a,z0a,z4W]
 refine z4d (fun i:Nat=>⟨[(0,.sl .plain nl ps.length (mls ps))],[(3,i64 (z0Ha (ps.take i):Nat)),(9,.sl .plain nl ps.length (mls ps)),(10,i64 ps.length),(11,i64 i)],[]⟩)
  (fun i=>ps.length-i) (fun i=>i≤ps.length) 0 (by simp[z0Ha]) (by simp) fun i hi=> ?_
 refine z3a fun Q1 hQ1=> ?_
 have tl:=z0V ps i
 by_cases h1:i<ps.length
 ·have ts:=z8wa h1
  have tl':=z0V ps (i+1)
  generalize hX:atP ps i=x at*
  obtain⟨xm,xn,xb⟩:=x
  simp only at ts
  have hneg:¬((z0Ha (ps.take i):Int)+xb.length<0):=by omega
  simp(maxSteps:=1000000) (disch:=first|omega|(simp;done)|(simp;omega)) [z9a,z1a,z0a,z9H,z6I,z2V,z7W,z1V,z2X,kT,kF,dT,dF,h1,z0Pb,hX,hQ1,hneg]
  exact⟨by omega,i+1,by omega,by omega,by omega,by omega⟩
 ·obtain rfl:i=ps.length:=by omega
  simp(maxSteps:=1000000) (disch:=first|omega|(simp;done)|(simp;omega)) [z9a,z1a,z0a,z9H,z6I,kT,kF,dT,dF,hQ1,hQ0,z6W,z7U,z6S,h139,z1Jb]
  refine z4d (fun i:Nat=>⟨[(0,.sl .plain nl ps.length (mls ps))],[(6,.sl (.own 1) none ((ps.take i).flatMap (·.2.2)).length (bys ((ps.take i).flatMap (·.2.2)))),(25,.sl .plain nl ps.length (mls ps)),(26,i64 ps.length),(27,i64 i)],[]⟩)
   (fun i=>ps.length-i) (fun i=>i≤ps.length) 0 (by simp) (by simp) fun i hi=> ?_
  refine z3a fun Q2 hQ2=> ?_
  have tl:=z0V ps i
  by_cases h1:i<ps.length
  ·have cs:=z7Ea h1
   have cl:=z3Zb (ps.take (i+1))
   have tl':=z0V ps (i+1)
   generalize hX:atP ps i=x at*
   obtain⟨xm,xn,xb⟩:=x
   simp only at cs
   generalize hF:(ps.take i).flatMap (·.2.2)=F at*
   simp(maxSteps:=1000000) (disch:=first|omega|(simp;done)|(simp;omega)) [z9a,z1a,z0a,z3H,z9C,z4S,z2S,kT,kF,dT,dF,h1,z0Pb,hX,hQ2]
   have e:z0Ha (ps.take (i+1))=(List.take (i+1) (List.map (fun a=>a.2.2.length) ps)).sum:=by rw[z0Ha,List.map_take]
   rw[cs,List.length_append] at cl
   exact⟨by omega,by omega,i+1,by omega,by omega,⟨by rw[←e];exact cl,cs.symm⟩,by omega⟩
  ·obtain rfl:i=ps.length:=by omega
   simp(maxSteps:=1000000) (disch:=first|omega|(simp;done)|(simp;omega)) [z9a,z1a,z0a,z3H,z9C,kT,kF,dT,dF,hQ2,z0U]
end Go.Abs
end

section
namespace Go.Abs
@[simp] theorem z1Ec (c:Cmd) (nl:Option Bool):(z1q c nl).length=8:=rfl
theorem z7hb {c:Cmd} (h:c.ok):∀x∈[c.kind,c.key,c.other,c.type,c.uses,c.life],z2l x:=by
 obtain⟨h1,h2,h3,h4,h5,h6,_⟩:=h
 intro x hx
 simp only[List.mem_cons,List.not_mem_nil,or_false] at hx
 rcases hx with rfl|rfl|rfl|rfl|rfl|rfl<;>assumption
set_option maxHeartbeats 4000000 in
theorem z57b (E:Env) (h7:E.G 7=z39) (h12:E.G 12=z99a) (h39:E.G 39=z6G) (h129:E.G 129=z6x):∀ds,z1ha.pre ds→ds.length=z1l.n∧awp E z1l.body (z1A z1l.res (z1ha.post ds)) (z9c z1l.wr ds):=by
 rintro _ ⟨c,nl,hc,rfl⟩
 rw[z1sa]
 obtain⟨k1,k2,k3,k4,k5,k6,dt,ls⟩:=c
 obtain⟨ho,hd,hll⟩:=hc
 simp only at hd hll
 simp(maxSteps:=1000000) (disch:=first|omega|(simp;done)|(simp;omega)) [z9a,z1a,z0a,z1l,z1S,z9R,z1q]
 refine z3a fun Q0 hQ0=> ?_
 simp(maxSteps:=1000000) (disch:=first|omega|(simp;done)|(simp;omega)) [z9a,z1a,z0a,z7S]
 have h6:=z7hb ho
 obtain⟨L,hL⟩:∃L:List Int,L=[k1,k2,k3,k4,k5,k6]:=⟨_,rfl⟩
 have hLl:L.length=6:=by rw[hL];rfl
 rw[show [i64 k1,i64 k2,i64 k3,i64 k4,i64 k5,i64 k6]=z4j L by rw[hL];rfl]
 rw[←hL] at h6
 refine z4d (fun i:Nat=>⟨[(0,.agg [i64 k1,i64 k2,i64 k3,i64 k4,i64 k5,i64 k6,st dt,.sl .plain nl ls.length (z4j ls)])],[(1,.bp 1 0),(3,.sl (.own 1) none ((L.take i).flatMap z1t).length (bys ((L.take i).flatMap z1t))),(18,.agg (z4j L)),(19,i64 i)],[(1,some [i64 k1,i64 k2,i64 k3,i64 k4,i64 k5,i64 k6,st dt,.sl .plain nl ls.length (z4j ls)])]⟩) (fun i=>6-i) (· ≤6) 0 (by simp) (by simp) fun i hi=> ?_
 refine z3a fun Q1 hQ1=> ?_
 by_cases h1:i<6
 ·have h1':i<L.length:=by omega
  have hs:=z1p L z1t 0 h1'
  rw[show L.getD i 0=atI L i from rfl] at hs
  have ha:=h6 _ (z3ka h1')
  have g2:=z4l ha
  have g3:=z7f (l:=L.take i) fun x hx=>h6 x (List.mem_of_mem_take hx)
  have g4:(L.take i).length≤6:=by rw[List.length_take];omega
  generalize hF:(L.take i).flatMap z1t=F at*
  generalize hX:atI L i=x at*
  have hg:∀h:i<(z4j L).length,(z4j L)[i]=i64 x:=fun h=>by rw[←hX];simp[z4j,atI,List.getD,List.getElem?_eq_getElem h1']
  simp(maxSteps:=1000000) (disch:=first|omega|(simp;done)|(simp;omega)) [z9a,z1a,z0a,z0D,z4D,z5S,z4T,kT,kF,dT,dF,h1,hg,hLl,h12,z8Ba ha.1 ha.2,hQ1,-List.length_flatMap]
  exact⟨⟨by omega,by omega⟩,by omega,i+1,by omega,by omega,⟨by rw[hs,List.length_append],hs.symm⟩,by omega⟩
 ·obtain rfl:i=6:=by omega
  have hT:L.take 6=L:=by rw[←hLl,List.take_length]
  have h6l:=z7f h6
  have e1:=z4l (n:=(dt.length:Int)) (by constructor<;>omega)
  have e2:=z4l (n:=(ls.length:Int)) (by constructor<;>omega)
  have e3:=z7f (l:=ls) ho.2.2.2.2.2.2
  have hip:z6G.pre [.sl .plain nl ls.length (z4j ls)]=True:=z5Ga hll ho.2.2.2.2.2.2 rfl
  have hiq:z6G.post [.sl .plain nl ls.length (z4j ls)]= .sl (.own 1) (some false) (z0q ls).length (bys (z0q ls)):=by rw[z6G,z88];rfl
  have hcp:z6x.pre [.sl .plain (some false) 3 [.sl (.own 1) none (L.flatMap z1t).length (bys (L.flatMap z1t)),.sl (.own 1) (some false) (z3U dt).length (bys (z3U dt)),.sl (.own 1) (some false) (z0q ls).length (bys (z0q ls))]]=True:=
   z08a (ps:=[(none,L.flatMap z1t),(some false,z3U dt),(some false,z0q ls)]) (by simp only[z6Rb,List.map_cons,List.map_nil,List.sum_cons,List.sum_nil,z3U,z0q,List.length_append];omega) (by simp) rfl
  have hcq:z6x.post [.sl .plain (some false) 3 [.sl (.own 1) none (L.flatMap z1t).length (bys (L.flatMap z1t)),.sl (.own 1) (some false) (z3U dt).length (bys (z3U dt)),.sl (.own 1) (some false) (z0q ls).length (bys (z0q ls))]]= .sl (.own 1) none (L.flatMap z1t++(z3U dt++z0q ls)).length (bys (L.flatMap z1t++(z3U dt++z0q ls))):=by
   have:=z3Qa (some false) 3 [(none,L.flatMap z1t),(some false,z3U dt),(some false,z0q ls)]
   simpa[bls,-List.length_append,-List.length_flatMap] using this
  have hE:z4Z ⟨k1,k2,k3,k4,k5,k6,dt,ls⟩=L.flatMap z1t++(z3U dt++z0q ls):=by rw[hL];rfl
  rw[hE] at hQ0
  simp(maxSteps:=1000000) (disch:=first|omega|(simp;done)|(simp;omega)) [z9a,z1a,z0a,z0D,z4D,kT,kF,dT,dF,hQ1,hQ0,hT,z9S,h7,z9va,h39,hip,hiq,h129,hcp,hcq,-z1a,-List.length_append,-List.length_flatMap]
end Go.Abs
end
