/- Lemmas: an abstract interpreter, and what the functions compute. -/
import Derived.Test.YtigghpdomoedhaaDoorE
set_option linter.unusedSimpArgs false
set_option linter.unusedVariables false
set_option linter.unusedSectionVars false
section
namespace Go.Abs
theorem z7jc (E:Env) (h6:E.G 6=z1Ab) (h7:E.G 7=z63):∀ds,z2Ta.pre ds→ds.length=z3r.n∧awp E z3r.body (z2q z3r.res (z2Ta.post ds)) (z9b z3r.wr ds):=by
 rintro _ ⟨k,l,nl,p,hk,hl,hp,rfl⟩
 rw[z3ta]
 have h1:=z2Z (s:=l) (by omega)
 have hpl:=z32 p
 simp(maxSteps:=1000000) (disch:=first|omega|(simp;done)|(simp;omega)) [z8a,z1a,z0a,z3r,z6X,z9U,h7,z4Ea]
 refine z7a fun Q0 hQ0=> ?_
 simp(maxSteps:=1000000) (disch:=first|omega|(simp;done)|(simp;omega)) [z8a,z1a,z0a,z0X]
 refine z4f (fun i:Nat=>⟨[(0,st k),(1,st l),(2,.sl .plain nl p.length (sts p))],[(7,.sl (.own 1) (some false) (inp l (p.take i)).length (bys (inp l (p.take i)))),(12,.sl .plain nl p.length (sts p)),(13,i64 p.length),(14,i64 i)],[]⟩) (fun i=>p.length-i) (· ≤p.length) 0 (by simp[inp]) (by simp) fun i hi=> ?_
 refine z7a fun Q1 hQ1=> ?_
 simp(maxSteps:=1000000) (disch:=first|omega|(simp;done)|(simp;omega)) [z8a,z1a,z0a,z4U,z3V]
 rw[z3e]
 refine⟨by simp,fun h=> ?_,fun h=> ?_⟩<;>simp at h
 ·have h':i<p.length:=by omega
  have hs:inp l (p.take (i+1))=inp l (p.take i)++z4na (atS p i):=by rw[inp,z8R p z4na [] h',inp,List.append_assoc];rfl
  have g0:=z6ea h'
  have g1:=z2Z (s:=atS p i) (by omega)
  have g2:=z4la p i
  have g3:=z4ja (l:=l) (p:=p.take i) hl (by omega)
  generalize hF:inp l (p.take i)=F at*
  generalize hX:atS p i=x at*
  simp(maxSteps:=1000000) (disch:=first|omega|(simp;done)|(simp;omega)) [z8a,z1a,z0a,z2V,z7V,z2Gb,hX,h7,z4Ea,hQ1]
  refine⟨by omega,by omega,by omega,i+1,by omega,by omega,⟨?_,hs.symm⟩,by simp⟩
  rw[hs,List.length_append]
 ·have e:i=p.length:=by omega
  subst e
  have g3:=z4ja (l:=l) (p:=p) hl (by omega)
  simp(maxSteps:=1000000) (disch:=first|omega|(simp;done)|(simp;omega)) [z8a,z1a,z0a,hQ1,hQ0,z8U,h6,z0Nb,drv]
theorem z5oc (E:Env) (h29:E.G 29=z0V):∀ds,z2Eb.pre ds→ds.length=z2h.n∧awp E z2h.body (z2q z2h.res (z2Eb.post ds)) (z9b z2h.wr ds):=by
 rintro _ ⟨l,nl,p,hl,hp,rfl⟩
 rw[z6lb]
 have h1:=z2Z (s:=l) (by omega)
 have hpl:=z32 p
 simp(maxSteps:=1000000) (disch:=first|omega|(simp;done)|(simp;omega)) [z8a,z1a,z0a,z2h,z5z,z2A,h29,z1pa]
 refine⟨by omega,?_⟩
 refine z7a fun Q0 hQ0=> ?_
 simp(maxSteps:=1000000) (disch:=first|omega|(simp;done)|(simp;omega)) [z8a,z1a,z0a,z5A]
 refine z4f (fun i:Nat=>⟨[(0,st l),(1,.sl .plain nl p.length (sts p))],[(5,.sl (.own 1) (some false) (inp l (p.take i)).length (bys (inp l (p.take i)))),(6,i64 i)],[]⟩) (fun i=>p.length-i) (· ≤p.length) 0 (by simp[inp]) (by simp) fun i hi=> ?_
 refine z7a fun Q1 hQ1=> ?_
 simp(maxSteps:=1000000) (disch:=first|omega|(simp;done)|(simp;omega)) [z8a,z1a,z0a,z8A,z4A]
 rw[z3e]
 refine⟨by simp,fun h=> ?_,fun h=> ?_⟩<;>simp at h
 ·have h':i<p.length:=by omega
  have hs:inp l (p.take (i+1))=inp l (p.take i)++z4na (atS p i):=by rw[inp,z8R p z4na [] h',inp,List.append_assoc];rfl
  have g0:=z6ea h'
  have g1:=z2Z (s:=atS p i) (by omega)
  have g2:=z4la p i
  have g3:=z4ja (l:=l) (p:=p.take i) hl (by omega)
  generalize hF:inp l (p.take i)=F at*
  generalize hX:atS p i=x at*
  simp(maxSteps:=1000000) (disch:=first|omega|(simp;done)|(simp;omega)) [z8a,z1a,z0a,z9A,z2Gb,hX,h29,z1pa,hQ1]
  refine⟨by omega,by omega,by omega,i+1,by omega,by omega,⟨?_,hs.symm⟩,by simp⟩
  rw[hs,List.length_append]
 ·have e:i=p.length:=by omega
  subst e
  have g3:=z4ja (l:=l) (p:=p) hl (by omega)
  simp(maxSteps:=1000000) (disch:=first|omega|(simp;done)|(simp;omega)) [z8a,z1a,z0a,hQ1,hQ0,z0A]
theorem z8Hb (E:Env) (h77:E.G 77=z2Eb) (h18:E.G 18=z8za):∀ds,z2Ta.pre ds→ds.length=z0g.n∧awp E z0g.body (z2q z0g.res (z2Ta.post ds)) (z9b z0g.wr ds):=by
 rintro _ ⟨k,l,nl,p,hk,hl,hp,rfl⟩
 rw[z3ta]
 have g3:=z4ja (l:=l) (p:=p) hl (by omega)
 simp(maxSteps:=1000000) (disch:=first|omega|(simp;done)|(simp;omega)) [z8a,z1a,z0a,z0g,z8y,h77,z5Sb,h18,z8rb,drv]
theorem z7pc (E:Env) (h76:E.G 76=z2Ta):∀ds,z2Ya.pre ds→ds.length=z6k.n∧awp E z6k.body (z2q z6k.res (z2Ya.post ds)) (z9b z6k.wr ds):=by
 rintro _ ⟨s,hs,rfl⟩
 rw[z0Qa]
 simp(maxSteps:=1000000) (disch:=first|omega|(simp;done)|(simp;omega)) [z8a,z1a,z0a,z6k,z2K,h76,z1Ra,z9xa,z6aa]
theorem z0Vb (E:Env) (h78:E.G 78=z2Ta):∀ds,z2Ya.pre ds→ds.length=z7c.n∧awp E z7c.body (z2q z7c.res (z2Ya.post ds)) (z9b z7c.wr ds):=by
 rintro _ ⟨s,hs,rfl⟩
 rw[z0Qa]
 simp(maxSteps:=1000000) (disch:=first|omega|(simp;done)|(simp;omega)) [z8a,z1a,z0a,z7c,z5t,h78,z1Ra,z9xa,z6aa]
end Go.Abs
end
