/- Lemmas: an abstract interpreter, and what the functions compute. -/
import Derived.Test.YtkccmbjmlpnejaaDoorK
import Derived.Test.YtkccmbjmlpnejaaDoorT
import Derived.Test.YtkccmbjmlpnejaaDoorD
set_option linter.unusedSimpArgs false
set_option linter.unusedVariables false
set_option linter.unusedSectionVars false
section
namespace Go.Abs
def z21b (r:Row):List z2a:=[st r.name,bo (z2Qb r.uses 1),bo (z2Qb r.uses 2),bo (z2Qb r.uses 4),bo (z2Qb r.uses 8),bo (z2Qb r.uses 16),i64 r.least,i64 r.most]
def z1Kb:List z2a:=z3Jc.flatMap z21b
def z4Qb:z5a:=⟨fun ds=>ds=[],fun _=> .sl (.own 8) (some false) 27 z1Kb⟩
@[simp] theorem z0Ec:z4Qb.pre []=True:=eq_true rfl
@[simp] theorem z8fc (ds:List z2a):z4Qb.post ds= .sl (.own 8) (some false) 27 z1Kb:=rfl
def inRc (n:Int) (u:Bool) (m:Int):Bool:=decide (0≤n)&&decide (n≤if u then m else 0)
def z84c:z5a:=⟨fun ds=>∃(n:Int) (u:Bool) (m:Int),ds=[i64 n,bo u,i64 m],fun ds=>bo (inRc (asI (nth ds 0)) (asB (nth ds 1)) (asI (nth ds 2)))⟩
@[simp] theorem z00c (n m:Int) (u:Bool):z84c.pre [i64 n,bo u,i64 m]=True:=eq_true ⟨n,u,m,rfl⟩
@[simp] theorem z5Mc (n m:Int) (u:Bool):z84c.post [i64 n,bo u,i64 m]=bo (inRc n u m):=by simp[z84c,nth]
def lsOk (l:List Int) (u:Bool):Bool:=if u then z53c 0 l&&decide (0<l.length) else decide (l.length=0)
def isLC:z5a:=⟨fun ds=>∃(nl:Option Bool) (l:List Int) (u:Bool),l.length≤1000000000∧ds=[.sl .plain nl l.length (z4j l),bo u],fun ds=>bo (lsOk (gIs (gCs (nth ds 0))) (asB (nth ds 1)))⟩
@[simp] theorem z9Kc (nl:Option Bool) (n:Nat) (l:List Int) (u:Bool):isLC.post [.sl .plain nl n (z4j l),bo u]=bo (lsOk l u):=by simp[isLC,nth]
@[simp] theorem z9bc (r:Row):z2h (z21b r)=true:=by simp[z21b,z2h]
end Go.Abs
end

section
namespace Go.Abs
set_option maxHeartbeats 4000000 in
theorem z3Yb (E:Env) (h29:E.G 29=z54) (h30:E.G 30=z8xa) (h40:E.G 40=z6fa):∀ds,z1ha.pre ds→ds.length=z0g.n∧awp E z0g.body (z1A z0g.res (z1ha.post ds)) (z9c z0g.wr ds):=by
 rintro _ ⟨c,nl,hc,rfl⟩
 rw[z1sa]
 obtain⟨k1,k2,k3,k4,k5,k6,dt,ls⟩:=c
 obtain⟨ho,hd,hll⟩:=hc
 simp only at hd hll
 simp(maxSteps:=1000000) (disch:=first|omega|(simp;done)|(simp;omega)) [z9a,z1a,z0a,z0g,z1G,z0G,z1q]
 refine z3a fun Q0 hQ0=> ?_
 simp(maxSteps:=1000000) (disch:=first|omega|(simp;done)|(simp;omega)) [z9a,z1a,z0a,z2F]
 have h6:=z7hb ho
 obtain⟨L,hL⟩:∃L:List Int,L=[k1,k2,k3,k4,k5,k6]:=⟨_,rfl⟩
 have hLl:L.length=6:=by rw[hL];rfl
 rw[show [i64 k1,i64 k2,i64 k3,i64 k4,i64 k5,i64 k6]=z4j L by rw[hL];rfl]
 rw[←hL] at h6
 refine z4d (fun i:Nat=>⟨[(0,.agg [i64 k1,i64 k2,i64 k3,i64 k4,i64 k5,i64 k6,st dt,.sl .plain nl ls.length (z4j ls)])],[(1,.bp 1 0),(3,.sl (.own 1) none ((L.take i).flatMap z1t).length (bys ((L.take i).flatMap z1t))),(4,.sl (.own 1) (some false) 6 (z4j L)),(5,i64 i)],[(1,some [i64 k1,i64 k2,i64 k3,i64 k4,i64 k5,i64 k6,st dt,.sl .plain nl ls.length (z4j ls)])]⟩) (fun i=>6-i) (· ≤6) 0 (by simp) (by simp) fun i hi=> ?_
 refine z3a fun Q1 hQ1=> ?_
 by_cases h1:i<6
 ·have h1':i<L.length:=by omega
  have hs:=z1p L z1t 0 h1'
  rw[show L.getD i 0=atI L i from rfl] at hs
  have ha:=h6 _ (z3ka h1')
  have g2:=z4l ha
  have g3:=z7f (l:=L.take i) fun x hx=>h6 x (List.mem_of_mem_take hx)
  have g4:(L.take i).length≤6:=by rw[List.length_take];omega
  generalize hF:(L.take i).flatMap z1t=F at*
  generalize hX:atI L i=x at*
  have hg:hdA (z4j (L.drop i))=i64 x:=by rw[←hX];exact z1ea h1'
  simp(maxSteps:=1000000) (disch:=first|omega|(simp;done)|(simp;omega)) [z9a,z1a,z0a,z6r,z7r,z7D,kT,kF,dT,dF,h1,hg,hLl,h30,z9oa ha.1 ha.2,hQ1,-List.length_flatMap]
  exact⟨by omega,by omega,by omega,i+1,by omega,by omega,⟨by rw[hs,List.length_append],hs.symm⟩,by omega⟩
 ·obtain rfl:i=6:=by omega
  have hT:L.take 6=L:=by rw[←hLl,List.take_length]
  have h6l:=z7f h6
  have e1:=z4l (n:=(dt.length:Int)) (by constructor<;>omega)
  have e2:=z4l (n:=(ls.length:Int)) (by constructor<;>omega)
  have e3:=z7f (l:=ls) ho.2.2.2.2.2.2
  have hip:z6fa.pre [.sl .plain nl ls.length (z4j ls)]=True:=z5Ga hll ho.2.2.2.2.2.2 rfl
  have hiq:z6fa.post [.sl .plain nl ls.length (z4j ls)]= .sl (.own 1) none (z0q ls).length (bys (z0q ls)):=by rw[z6fa,z88];rfl
  have hE:z4Z ⟨k1,k2,k3,k4,k5,k6,dt,ls⟩=L.flatMap z1t++(z3U dt++z0q ls):=by rw[hL];rfl
  rw[hE] at hQ0
  simp(maxSteps:=1000000) (disch:=first|omega|(simp;done)|(simp;omega)) [z9a,z1a,z0a,z6r,z7r,kT,kF,dT,dF,hQ1,hQ0,hT,z1E,z9F,h29,z8ya,h40,hip,hiq,-z1a,-List.length_append,-List.length_flatMap]
  have e4:(z3U dt).length=(z1t dt.length).length+dt.length:=by rw[z3U,List.length_append]
  have e5:(z0q ls).length=(z1t ls.length).length+(ls.flatMap z1t).length:=by rw[z0q,List.length_append]
  refine⟨by omega,by simp only[List.length_append] at*;omega,by simp only[List.length_append];omega,by simp only[z6J]⟩
  --, List.length_append] at *; omega, by simp only [List.length_append]; omega, by simp only [bys_append]⟩
theorem z74b (E:Env) (h147:E.G 147=z1ha) (h20:E.G 20=z2pb):∀ds,z8da.pre ds→ds.length=z3g.n∧awp E z3g.body (z1A z3g.res (z8da.post ds)) (z9c z3g.wr ds):=by
 rintro _ ⟨c,nl,hc,rfl⟩
 rw[z2ia]
 have hl:=z8pa hc
 have hp:z2pb.pre [i64 7,.sl .plain (some false) 1 [st (z4Z c)]]=True:=z0Ub (l:=[z4Z c]) rfl (by rw[z45c];omega)
 have hq:z2pb.post [i64 7,.sl .plain (some false) 1 [st (z4Z c)]]= .agg (bys (z5G 7 [z4Z c])):=z14a 7 _ 1 [z4Z c]
 simp(maxSteps:=1000000) (disch:=first|omega|(simp;done)|(simp;omega)) [z9a,z1a,z0a,z3g,z3E,h147,z7Ga hc,h20,hp,hq,z6n,z9q,z0z,z1Ea,z8A]
end Go.Abs
end

section
namespace Go.Abs
end Go.Abs
end
