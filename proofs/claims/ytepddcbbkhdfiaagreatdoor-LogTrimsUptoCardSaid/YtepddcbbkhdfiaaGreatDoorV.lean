/- Lemmas: an abstract interpreter, and what the functions compute. -/
import Derived.Test.YtepddcbbkhdfiaaGreatDoorQ
import Derived.Test.YtepddcbbkhdfiaaGreatDoorU
import Derived.KernelRfl
import Derived.Test.YtepddcbbkhdfiaaGreatDoorT
import Derived.Test.YtepddcbbkhdfiaaGreatDoorS
import Derived.Test.YtepddcbbkhdfiaaGreatDoorH
import Derived.Test.YtepddcbbkhdfiaaGreatDoorI
import Derived.Test.YtepddcbbkhdfiaaGreatDoorK
import Derived.Test.YtepddcbbkhdfiaaGreatDoorJ
set_option linter.unusedSimpArgs false
set_option linter.unusedVariables false
set_option linter.unusedSectionVars false
section
namespace Go.Abs
set_option maxRecDepth 100000
theorem z55c {m:z3P} (h:z2e m.uses):z8tb m=true↔1≤m.id∧m.id≤2147483647∧1≤m.ver∧m.ver≤2147483647∧0≤m.par∧m.par≤2147483647∧0≤m.ty∧m.ty≤31∧z2ed m.uses 956=m.uses∧0≤m.beg∧m.beg≤m.fin∧0≤m.fin∧m.fin≤1099511627776:=by
 simp only[z8tb,z3bb,z0Wc h,Bool.and_eq_true,beq_iff_eq]
 simp only[z8bc,z4rc,and_assoc]
theorem z00d {p:z3P→Bool} {l:List z3P} {i:Nat} (h:i<l.length) (hp:p (atD l i)=false):l.all p=false:=by
 cases ha:l.all p with
 |false=>rfl
 |true=>
  have:=List.all_eq_true.1 ha _ (z5rc h)
  rw[hp] at this
  cases this
theorem z7Ad {p:z3P→Bool} {l:List z3P} (h:∀j<l.length,p (atD l j)=true):l.all p=true:=by
 rw[List.all_eq_true]
 intro x hx
 obtain⟨i,hi,rfl⟩:=List.mem_iff_getElem.1 hx
 rw[←z26b hi]
 exact h i hi
theorem z68c (c:Cmd):z9Bb c (z3xc c)=(!z1Dc c.kind||decide (c.data=[])):=by
 unfold z3xc
 cases hs:z1Dc c.kind
 ·simp[z9Bb]
 ·obtain⟨k1,k2,k3,k4,k5,k6,dt,ls⟩:=c
  simp[z9Bb]
  cases dt<;>rfl
set_option maxHeartbeats 16000000 in
theorem z3kd (E:Env) (h149:E.G 149=z4ab) (h327:E.G 327=z1qc):∀ds,z2kc.pre ds→ds.length=z7wa.n∧awp E z7wa.body (z4xa z7wa.res (z2kc.post ds)) (z4H z7wa.wr ds):=by
 rintro _ ⟨nc,nm,ng,x,hx,rfl⟩
 rw[z9Nb hx]
 have h16:=hx.1.2.2.2.2.2.2.1
 have hd:=hx.1.2.2.2.2.2.1
 have hml:=hx.2.2.1
 have hgl:=hx.2.2.2
 have hl:=z8Qa (nc:=nc) (nm:=nm) (ng:=ng) hd
 have e28:=z7Lb (nc:=nc) (nm:=nm) (ng:=ng) hd
 have e29:=z6Lb (nc:=nc) (nm:=nm) (ng:=ng) hd
 have hg:=z6Fb (nc:=nc) (nm:=nm) (ng:=ng) hd
 have hlen:=z2Xa (z0Ba h16)
 obtain⟨Z,hZ⟩:∃Z,Z=okE x:=⟨_,rfl⟩
 rw[←hZ]
 have hzl:¬(0≤x.time∧x.time≤1099511627776∧0≤x.req∧x.req≤2147483647∧1≤x.mode∧x.mode≤5∧x.made.length≤4096∧x.gone.length≤4096)→Z=false:=fun h=>by
  cases hc:okE x
  ·rw[hZ,hc]
  ·exact absurd (z4Gb hc) h
 refine⟨rfl,?_⟩
 simp only[z7wa]
 refine z1g fun Q9 hQ9=> ?_
 refine z1Wa fun B hB=> ?_
 simp(maxSteps:=1000000) (disch:=first|omega|(simp;done)|(simp;omega)) [z6G,z8pa,z7pa,hl]
 rw[hB];clear hB
 rw[z4ia]
 refine z1g fun Q1 hQ1=> ?_
 rw[z4ia]
 refine z1g fun Q2 hQ2=> ?_
 rw[z1W]
 refine z8qa fun T hT=> ?_
 simp(maxSteps:=1000000) (disch:=first|omega|(simp;done)|(simp;omega)) [z6G,z8pa,z7pa,z9Oa,hl,e28,e29]
 by_cases b1:x.time<0
 ·refine z2qa true 10 46 (by simp[b1]) (by rw[hT];kernel_rfl) (by rw[hT];kernel_rfl) ?_
  have hz:Z=false:=hzl (by omega)
  simp(maxSteps:=1000000) (disch:=first|omega|(simp;done)|(simp;omega)) [z6G,z8pa,z7pa,hQ2,hQ1,hQ9,kT,hz]
 rw[hT];clear hT
 refine z8qa fun T hT=> ?_
 simp(maxSteps:=1000000) (disch:=first|omega|(simp;done)|(simp;omega)) [z6G,z8pa,z7pa,z8Pa,hl,e28,e29,b1]
 by_cases b2:1099511627776<x.time
 ·refine z2qa true 15 46 (by simp[b2]) (by rw[hT];kernel_rfl) (by rw[hT];kernel_rfl) ?_
  have hz:Z=false:=hzl (by omega)
  simp(maxSteps:=1000000) (disch:=first|omega|(simp;done)|(simp;omega)) [z6G,z8pa,z7pa,hQ2,hQ1,hQ9,kT,hz]
 rw[hT];clear hT
 refine z8qa fun T hT=> ?_
 simp(maxSteps:=1000000) (disch:=first|omega|(simp;done)|(simp;omega)) [z6G,z8pa,z7pa,z0Pa,hl,e28,e29,b1,b2]
 by_cases b3:x.req<0
 ·refine z2qa true 20 46 (by simp[b3]) (by rw[hT];kernel_rfl) (by rw[hT];kernel_rfl) ?_
  have hz:Z=false:=hzl (by omega)
  simp(maxSteps:=1000000) (disch:=first|omega|(simp;done)|(simp;omega)) [z6G,z8pa,z7pa,hQ2,hQ1,hQ9,kT,hz]
 rw[hT];clear hT
 refine z8qa fun T hT=> ?_
 simp(maxSteps:=1000000) (disch:=first|omega|(simp;done)|(simp;omega)) [z6G,z8pa,z7pa,z5Qa,hl,e28,e29,b1,b2,b3]
 by_cases b4:2147483647<x.req
 ·refine z2qa true 25 46 (by simp[b4]) (by rw[hT];kernel_rfl) (by rw[hT];kernel_rfl) ?_
  have hz:Z=false:=hzl (by omega)
  simp(maxSteps:=1000000) (disch:=first|omega|(simp;done)|(simp;omega)) [z6G,z8pa,z7pa,hQ2,hQ1,hQ9,kT,hz]
 rw[hT];clear hT
 refine z8qa fun T hT=> ?_
 simp(maxSteps:=1000000) (disch:=first|omega|(simp;done)|(simp;omega)) [z6G,z8pa,z7pa,z3Pa,hl,e28,e29,b1,b2,b3,b4]
 by_cases b5:x.mode<1
 ·refine z2qa true 30 46 (by simp[b5]) (by rw[hT];kernel_rfl) (by rw[hT];kernel_rfl) ?_
  have hz:Z=false:=hzl (by omega)
  simp(maxSteps:=1000000) (disch:=first|omega|(simp;done)|(simp;omega)) [z6G,z8pa,z7pa,hQ2,hQ1,hQ9,kT,hz]
 rw[hT];clear hT
 refine z8qa fun T hT=> ?_
 simp(maxSteps:=1000000) (disch:=first|omega|(simp;done)|(simp;omega)) [z6G,z8pa,z7pa,z6Ra,hl,e28,e29,b1,b2,b3,b4,b5]
 by_cases b6:5<x.mode
 ·refine z2qa true 35 46 (by simp[b6]) (by rw[hT];kernel_rfl) (by rw[hT];kernel_rfl) ?_
  have hz:Z=false:=hzl (by omega)
  simp(maxSteps:=1000000) (disch:=first|omega|(simp;done)|(simp;omega)) [z6G,z8pa,z7pa,hQ2,hQ1,hQ9,kT,hz]
 rw[hT];clear hT
 refine z8qa fun T hT=> ?_
 simp(maxSteps:=1000000) (disch:=first|omega|(simp;done)|(simp;omega)) [z6G,z8pa,z7pa,z6Qa,hl,e28,e29,b1,b2,b3,b4,b5,b6]
 by_cases b7:4096<(x.made.length:Int)
 ·refine z2qa true 41 46 (by simp[b7]) (by rw[hT];kernel_rfl) (by rw[hT];kernel_rfl) ?_
  have hz:Z=false:=hzl (by omega)
  simp(maxSteps:=1000000) (disch:=first|omega|(simp;done)|(simp;omega)) [z6G,z8pa,z7pa,hQ2,hQ1,hQ9,kT,hz]
 rw[hT];clear hT
 by_cases b8:4096<(x.gone.length:Int)
 ·have hz:Z=false:=hzl (by omega)
  simp(maxSteps:=1000000) (disch:=first|omega|(simp;done)|(simp;omega)) [z6G,z8pa,z7pa,hQ2,hQ1,hQ9,kT,hz,z6Fa,hl,e28,e29,b1,b2,b3,b4,b5,b6,b7,b8]
 simp(maxSteps:=1000000) (disch:=first|omega|(simp;done)|(simp;omega)) [z6G,z8pa,z7pa,z6Fa,hl,e28,e29,b1,b2,b3,b4,b5,b6,b7,b8,hQ2,hQ1,kF]
 simp(maxSteps:=1000000) (disch:=first|omega|(simp;done)|(simp;omega)) [z6G,z8pa,z7pa,z6Pa]
 refine z1g fun Q3 hQ3=> ?_
 refine z1v (fun i:Nat=>⟨[(0,.agg (z0va nc nm ng x))],[(1,.bp 1 0),(3,i64 i)],[(1,some (z0va nc nm ng x))]⟩)
  (fun i=>x.made.length-i) (fun i=>i≤x.made.length∧∀j<i,z8tb (atD x.made j)=true) 0 (by simp) (by simp) fun i hi=> ?_
 obtain⟨hi,he⟩:=hi
 refine z1g fun Q4 hQ4=> ?_
 by_cases h1:i<x.made.length
 ·have hm:=h16 _ (z5rc h1)
  have hmd:=hm.2.2.2.2.2.2.2
  have ha:=z1ed h16 h1
  have hmll:=z0Ka hmd
  have hle:24≤x.made.length*24-i*24:=by omega
  have hle2:i*24≤x.made.length*24:=by omega
  have hno:z8tb (atD x.made i)=false→Z=false:=fun h=>by
   have:=z00d (p:=z8tb) h1 h
   rw[hZ]
   simp only[okE,this]
   simp
  have hst:∀j<i+1,j<i∨j=i:=fun j hj=>by omega
  obtain⟨m,hX⟩:∃m,m=atD x.made i:=⟨_,rfl⟩
  rw[←hX] at hm hmd ha hmll hno
  have sp:splice (i64 0::i64 0::i64 0::i64 0::i64 0::i64 0::i64 0::bo false::bys (z5j 16)) 0 (z7Ka m)=z7Ka m:=z0Oc hmd rfl
  have hiff:=z55c hm.2.2.1
  have hno2:¬(1≤m.id∧m.id≤2147483647∧1≤m.ver∧m.ver≤2147483647∧0≤m.par∧m.par≤2147483647∧0≤m.ty∧m.ty≤31∧z2ed m.uses 956=m.uses∧0≤m.beg∧m.beg≤m.fin∧0≤m.fin∧m.fin≤1099511627776)→Z=false:=fun h=>hno (by
   cases hc:z8tb m
   ·rfl
   ·exact absurd (hiff.1 hc) h)
  simp(maxSteps:=1000000) (disch:=first|omega|(simp;done)|(simp;omega)) [z6G,z8pa,z7pa,z7Ea,kT,kF,dT,dF,h1,e28,hl]
  simp only[z1Pa]
  rw[z4ia]
  refine z1g fun Q5 hQ5=> ?_
  rw[z9Bd]
  refine z1g fun Q6 hQ6=> ?_
  refine z1Wa fun B hB=> ?_
  simp(maxSteps:=1000000) (disch:=first|omega|(simp;done)|(simp;omega)) [z6G,z8pa,z7pa,e28,hl,hlen,hle,hle2,ha,sp,hmll,z5Nb,z82b,h1]
  rw[hB];clear hB
  rw[z4ia]
  refine z1g fun Q7 hQ7=> ?_
  rw[z1W]
  refine z8qa fun T hT=> ?_
  simp(maxSteps:=1000000) (disch:=first|omega|(simp;done)|(simp;omega)) [z6G,z8pa,z7pa,z1Ra,hmll]
  by_cases c1:m.id<1
  ·refine z2qa true 62 121 (by simp[c1]) (by rw[hT];kernel_rfl) (by rw[hT];kernel_rfl) ?_
   have hz:Z=false:=hno2 (by omega)
   simp(maxSteps:=1000000) (disch:=first|omega|(simp;done)|(simp;omega)) [z6G,z8pa,z7pa,hQ7,hQ6,hQ5,hQ4,hQ3,hQ9,kT,hz]
  rw[hT];clear hT
  refine z8qa fun T hT=> ?_
  simp(maxSteps:=1000000) (disch:=first|omega|(simp;done)|(simp;omega)) [z6G,z8pa,z7pa,z9Pa,hmll,c1]
  by_cases c2:2147483647<m.id
  ·refine z2qa true 67 121 (by simp[c2]) (by rw[hT];kernel_rfl) (by rw[hT];kernel_rfl) ?_
   have hz:Z=false:=hno2 (by omega)
   simp(maxSteps:=1000000) (disch:=first|omega|(simp;done)|(simp;omega)) [z6G,z8pa,z7pa,hQ7,hQ6,hQ5,hQ4,hQ3,hQ9,kT,hz]
  rw[hT];clear hT
  refine z8qa fun T hT=> ?_
  simp(maxSteps:=1000000) (disch:=first|omega|(simp;done)|(simp;omega)) [z6G,z8pa,z7pa,z3Na,hmll,c1,c2]
  by_cases c3:m.ver<1
  ·refine z2qa true 72 121 (by simp[c3]) (by rw[hT];kernel_rfl) (by rw[hT];kernel_rfl) ?_
   have hz:Z=false:=hno2 (by omega)
   simp(maxSteps:=1000000) (disch:=first|omega|(simp;done)|(simp;omega)) [z6G,z8pa,z7pa,hQ7,hQ6,hQ5,hQ4,hQ3,hQ9,kT,hz]
  rw[hT];clear hT
  refine z8qa fun T hT=> ?_
  simp(maxSteps:=1000000) (disch:=first|omega|(simp;done)|(simp;omega)) [z6G,z8pa,z7pa,z1Na,hmll,c1,c2,c3]
  by_cases c4:2147483647<m.ver
  ·refine z2qa true 77 121 (by simp[c4]) (by rw[hT];kernel_rfl) (by rw[hT];kernel_rfl) ?_
   have hz:Z=false:=hno2 (by omega)
   simp(maxSteps:=1000000) (disch:=first|omega|(simp;done)|(simp;omega)) [z6G,z8pa,z7pa,hQ7,hQ6,hQ5,hQ4,hQ3,hQ9,kT,hz]
  rw[hT];clear hT
  refine z8qa fun T hT=> ?_
  simp(maxSteps:=1000000) (disch:=first|omega|(simp;done)|(simp;omega)) [z6G,z8pa,z7pa,z5Na,hmll,c1,c2,c3,c4]
  by_cases c5:m.par<0
  ·refine z2qa true 82 121 (by simp[c5]) (by rw[hT];kernel_rfl) (by rw[hT];kernel_rfl) ?_
   have hz:Z=false:=hno2 (by omega)
   simp(maxSteps:=1000000) (disch:=first|omega|(simp;done)|(simp;omega)) [z6G,z8pa,z7pa,hQ7,hQ6,hQ5,hQ4,hQ3,hQ9,kT,hz]
  rw[hT];clear hT
  refine z8qa fun T hT=> ?_
  simp(maxSteps:=1000000) (disch:=first|omega|(simp;done)|(simp;omega)) [z6G,z8pa,z7pa,z9Na,hmll,c1,c2,c3,c4,c5]
  by_cases c6:2147483647<m.par
  ·refine z2qa true 87 121 (by simp[c6]) (by rw[hT];kernel_rfl) (by rw[hT];kernel_rfl) ?_
   have hz:Z=false:=hno2 (by omega)
   simp(maxSteps:=1000000) (disch:=first|omega|(simp;done)|(simp;omega)) [z6G,z8pa,z7pa,hQ7,hQ6,hQ5,hQ4,hQ3,hQ9,kT,hz]
  rw[hT];clear hT
  refine z8qa fun T hT=> ?_
  simp(maxSteps:=1000000) (disch:=first|omega|(simp;done)|(simp;omega)) [z6G,z8pa,z7pa,z8Na,hmll,c1,c2,c3,c4,c5,c6]
  by_cases c7:m.ty<0
  ·refine z2qa true 92 121 (by simp[c7]) (by rw[hT];kernel_rfl) (by rw[hT];kernel_rfl) ?_
   have hz:Z=false:=hno2 (by omega)
   simp(maxSteps:=1000000) (disch:=first|omega|(simp;done)|(simp;omega)) [z6G,z8pa,z7pa,hQ7,hQ6,hQ5,hQ4,hQ3,hQ9,kT,hz]
  rw[hT];clear hT
  refine z8qa fun T hT=> ?_
  simp(maxSteps:=1000000) (disch:=first|omega|(simp;done)|(simp;omega)) [z6G,z8pa,z7pa,z6Na,hmll,c1,c2,c3,c4,c5,c6,c7]
  by_cases c8:31<m.ty
  ·refine z2qa true 97 121 (by simp[c8]) (by rw[hT];kernel_rfl) (by rw[hT];kernel_rfl) ?_
   have hz:Z=false:=hno2 (by omega)
   simp(maxSteps:=1000000) (disch:=first|omega|(simp;done)|(simp;omega)) [z6G,z8pa,z7pa,hQ7,hQ6,hQ5,hQ4,hQ3,hQ9,kT,hz]
  rw[hT];clear hT
  refine z8qa fun T hT=> ?_
  simp(maxSteps:=1000000) (disch:=first|omega|(simp;done)|(simp;omega)) [z6G,z8pa,z7pa,z9Ma,hmll,c1,c2,c3,c4,c5,c6,c7,c8]
  by_cases c9:z2ed m.uses 956=m.uses
  rotate_left
  ·refine z2qa true 105 121 (by simp[c9]) (by rw[hT];kernel_rfl) (by rw[hT];kernel_rfl) ?_
   have hz:Z=false:=hno2 (by omega)
   simp(maxSteps:=1000000) (disch:=first|omega|(simp;done)|(simp;omega)) [z6G,z8pa,z7pa,hQ7,hQ6,hQ5,hQ4,hQ3,hQ9,kT,hz]
  rw[hT];clear hT
  refine z8qa fun T hT=> ?_
  simp(maxSteps:=1000000) (disch:=first|omega|(simp;done)|(simp;omega)) [z6G,z8pa,z7pa,z7Ma,hmll,c1,c2,c3,c4,c5,c6,c7,c8,c9]
  by_cases c10:m.beg<0
  ·refine z2qa true 110 121 (by simp[c10]) (by rw[hT];kernel_rfl) (by rw[hT];kernel_rfl) ?_
   have hz:Z=false:=hno2 (by omega)
   simp(maxSteps:=1000000) (disch:=first|omega|(simp;done)|(simp;omega)) [z6G,z8pa,z7pa,hQ7,hQ6,hQ5,hQ4,hQ3,hQ9,kT,hz]
  rw[hT];clear hT
  refine z8qa fun T hT=> ?_
  simp(maxSteps:=1000000) (disch:=first|omega|(simp;done)|(simp;omega)) [z6G,z8pa,z7pa,z0Na,hmll,c1,c2,c3,c4,c5,c6,c7,c8,c9,c10]
  by_cases c11:m.fin<m.beg
  ·refine z2qa true 117 121 (by simp[c11]) (by rw[hT];kernel_rfl) (by rw[hT];kernel_rfl) ?_
   have hz:Z=false:=hno2 (by omega)
   simp(maxSteps:=1000000) (disch:=first|omega|(simp;done)|(simp;omega)) [z6G,z8pa,z7pa,hQ7,hQ6,hQ5,hQ4,hQ3,hQ9,kT,hz]
  rw[hT];clear hT
  by_cases c12:1099511627776<m.fin
  ·have hz:Z=false:=hno2 (by omega)
   simp(maxSteps:=1000000) (disch:=first|omega|(simp;done)|(simp;omega)) [z6G,z8pa,z7pa,hQ7,hQ6,hQ5,hQ4,hQ3,hQ9,kT,hz,z0Ea,hmll,c1,c2,c3,c4,c5,c6,c7,c8,c9,c10,c11,c12]
  simp(maxSteps:=1000000) (disch:=first|omega|(simp;done)|(simp;omega)) [z6G,z8pa,z7pa,z0Ea,hmll,c1,c2,c3,c4,c5,c6,c7,c8,c9,c10,c11,c12,hQ7,hQ6,hQ5,hQ4,kF]
  have hyes:z8tb m=true:=hiff.2 (by omega)
  refine⟨i+1,by omega,⟨by omega,fun j hj=> ?_⟩,by omega⟩
  rcases hst j hj with h|h
  ·exact he j h
  ·rw[h,←hX];exact hyes
 ·obtain rfl:i=x.made.length:=by omega
  have hall:=z7Ad he
  have hzz:Z=if x.kind=0 then z6La x (z7cc x.time x.mode) else inR x.kind 1 27&&(x.cmd.kind==x.kind)&&(!z1Dc x.kind||decide (x.cmd.data=[])):=by
   have q1:inR x.time 0 z4rc=true:=(z3bb _ _ _).2 (by simp only[z4rc];omega)
   have q2:inR x.req 0 z8bc=true:=(z3bb _ _ _).2 (by simp only[z8bc];omega)
   have q3:inR x.mode 1 5=true:=(z3bb _ _ _).2 (by omega)
   have q4:decide (x.made.length≤4096)=true:=by simp only[decide_eq_true_eq];omega
   have q5:decide (x.gone.length≤4096)=true:=by simp only[decide_eq_true_eq];omega
   simp only[hZ,okE,q1,q2,q3,q4,q5,hall,Bool.true_and]
  simp(maxSteps:=1000000) (disch:=first|omega|(simp;done)|(simp;omega)) [z6G,z8pa,z7pa,z7Ea,kF,kT,dT,dF,hQ4,hQ3,e28,hl]
  have hzp:=z8Cb (nl:=nc) (nl':=none) hx.2.1 z7jb
  have hzq:=z53a x.cmd z8u nc none
  rw[show z13a z8u none=[i64 0,i64 0,i64 0,i64 0,i64 0,i64 0,st [],.sl .plain none 0 []] from rfl] at hzp hzq
  by_cases hk:x.kind=0
  ·rw[if_pos hk] at hzz
   have eqz:z7s (ks8 16) (bys x.dig) (bys (z5j 16))=decide (x.dig=z2Jd):=z37a hd rfl
   simp only[z4Fa]
   rw[z4ia]
   refine z1g fun Q1 hQ1=> ?_
   refine z1Wa fun B hB=> ?_
   simp(maxSteps:=1000000) (disch:=first|omega|(simp;done)|(simp;omega)) [z6G,z8pa,z7pa,hl,hk]
   rw[hB];clear hB
   rw[z4h]
   refine⟨by simp,fun _=> ?_,fun h=>by simp at h⟩
   refine z1Wa fun B hB=> ?_
   simp(maxSteps:=1000000) (disch:=first|omega|(simp;done)|(simp;omega)) [z6G,z8pa,z7pa,hl,h149,hzp,hzq]
   rw[hB];clear hB
   rw[z4ia]
   refine z1g fun Q2 hQ2=> ?_
   rw[z1W]
   refine z8qa fun T hT=> ?_
   simp(maxSteps:=1000000) (disch:=first|omega|(simp;done)|(simp;omega)) [z6G,z8pa,z7pa,z5Ma,hl,e28,e29,hg,eqz,hd]
   by_cases d1:x.req=0
   rotate_left
   ·refine z2qa false 132 2 (by simp[d1]) (by rw[hT];kernel_rfl) (by rw[hT];kernel_rfl) ?_
    have hz:Z=false:=by rw[hzz];simp[z6La,z7cc,d1]
    simp(maxSteps:=1000000) (disch:=first|omega|(simp;done)|(simp;omega)) [z6G,z8pa,z7pa,hQ2,hQ1,hQ9,hz]
   rw[hT];clear hT
   refine z8qa fun T hT=> ?_
   simp(maxSteps:=1000000) (disch:=first|omega|(simp;done)|(simp;omega)) [z6G,z8pa,z7pa,z6Ma,hl,e28,e29,hg,eqz,hd,d1]
   by_cases d2:z9Bb x.cmd z8u=true
   rotate_left
   ·refine z2qa false 135 2 (by simp[d2]) (by rw[hT];kernel_rfl) (by rw[hT];kernel_rfl) ?_
    have hz:Z=false:=by rw[hzz];simp[z6La,z7cc,d2]
    simp(maxSteps:=1000000) (disch:=first|omega|(simp;done)|(simp;omega)) [z6G,z8pa,z7pa,hQ2,hQ1,hQ9,hz]
   rw[hT];clear hT
   refine z8qa fun T hT=> ?_
   simp(maxSteps:=1000000) (disch:=first|omega|(simp;done)|(simp;omega)) [z6G,z8pa,z7pa,z0Oa,hl,e28,e29,hg,eqz,hd,d1,d2]
   by_cases d3:x.dig=z2Jd
   rotate_left
   ·refine z2qa false 141 2 (by simp[d3]) (by rw[hT];kernel_rfl) (by rw[hT];kernel_rfl) ?_
    have hz:Z=false:=by rw[hzz];simp[z6La,z7cc,d3]
    simp(maxSteps:=1000000) (disch:=first|omega|(simp;done)|(simp;omega)) [z6G,z8pa,z7pa,hQ2,hQ1,hQ9,hz]
   rw[hT];clear hT
   refine z8qa fun T hT=> ?_
   simp(maxSteps:=1000000) (disch:=first|omega|(simp;done)|(simp;omega)) [z6G,z8pa,z7pa,z3Oa,hl,e28,e29,hg,eqz,hd,d1,d2,d3]
   by_cases d4:x.made=[]
   rotate_left
   ·refine z2qa false 147 2 (by simp[d4]) (by rw[hT];kernel_rfl) (by rw[hT];kernel_rfl) ?_
    have hz:Z=false:=by rw[hzz];simp[z6La,z7cc,d4]
    simp(maxSteps:=1000000) (disch:=first|omega|(simp;done)|(simp;omega)) [z6G,z8pa,z7pa,hQ2,hQ1,hQ9,hz]
   rw[hT];clear hT
   by_cases d5:x.gone=[]
   rotate_left
   ·have hz:Z=false:=by rw[hzz];simp[z6La,z7cc,d5]
    simp(maxSteps:=1000000) (disch:=first|omega|(simp;done)|(simp;omega)) [z6G,z8pa,z7pa,hQ2,hQ1,hQ9,hz,z6Da,hl,e28,e29,hg,eqz,hd,d1,d2,d3,d4,d5]
   have hz:Z=true:=by rw[hzz];simp[z6La,z7cc,d1,d2,d3,d4,d5,hk]
   simp(maxSteps:=1000000) (disch:=first|omega|(simp;done)|(simp;omega)) [z6G,z8pa,z7pa,z6Da,hl,e28,e29,hg,eqz,hd,d1,d2,d3,d4,d5,hQ2,hQ1,hQ9,hz]
  ·rw[if_neg hk] at hzz
   have hp2:=z31c (nl:=nc) hx.2.1
   have hq2:=z2fc x.cmd nc
   have hp3:=z8Cb (nl:=nc) (nl':=nc) hx.2.1 (z3Bc hx.2.1)
   have hq3:=z53a x.cmd (z3xc x.cmd) nc nc
   simp only[z4Fa]
   rw[z4ia]
   refine z1g fun Q1 hQ1=> ?_
   refine z1Wa fun B hB=> ?_
   simp(maxSteps:=1000000) (disch:=first|omega|(simp;done)|(simp;omega)) [z6G,z8pa,z7pa,hl,hk]
   rw[hB];clear hB
   rw[z4h]
   refine⟨by simp[hk],fun h=>by simp[hk] at h,fun _=> ?_⟩
   simp(maxSteps:=1000000) (disch:=first|omega|(simp;done)|(simp;omega)) [z6G,z8pa,z7pa,hQ1]
   simp only[z2Pa]
   refine z1Wa fun B hB=> ?_
   simp(maxSteps:=1000000) (disch:=first|omega|(simp;done)|(simp;omega)) [z6G,z8pa,z7pa,hl,h149,h327,hp2,hq2,hp3,hq3]
   rw[hB];clear hB
   rw[z4ia]
   refine z1g fun Q2 hQ2=> ?_
   rw[z1W]
   refine z8qa fun T hT=> ?_
   simp(maxSteps:=1000000) (disch:=first|omega|(simp;done)|(simp;omega)) [z6G,z8pa,z7pa,z4Ma,hl]
   by_cases d1:1≤x.kind
   rotate_left
   ·refine z2qa false 162 2 (by simp[d1]) (by rw[hT];kernel_rfl) (by rw[hT];kernel_rfl) ?_
    have hz:Z=false:=by rw[hzz];simp[inR,d1]
    simp(maxSteps:=1000000) (disch:=first|omega|(simp;done)|(simp;omega)) [z6G,z8pa,z7pa,hQ2,hQ9,hz]
   rw[hT];clear hT
   refine z8qa fun T hT=> ?_
   simp(maxSteps:=1000000) (disch:=first|omega|(simp;done)|(simp;omega)) [z6G,z8pa,z7pa,z3Ma,hl,d1]
   by_cases d2:x.kind≤27
   rotate_left
   ·refine z2qa false 167 2 (by simp[d2]) (by rw[hT];kernel_rfl) (by rw[hT];kernel_rfl) ?_
    have hz:Z=false:=by rw[hzz];simp[inR,d2]
    simp(maxSteps:=1000000) (disch:=first|omega|(simp;done)|(simp;omega)) [z6G,z8pa,z7pa,hQ2,hQ9,hz]
   rw[hT];clear hT
   refine z8qa fun T hT=> ?_
   simp(maxSteps:=1000000) (disch:=first|omega|(simp;done)|(simp;omega)) [z6G,z8pa,z7pa,z7Na,hl,d1,d2]
   by_cases d3:x.cmd.kind=x.kind
   rotate_left
   ·refine z2qa false 175 2 (by simp[d3]) (by rw[hT];kernel_rfl) (by rw[hT];kernel_rfl) ?_
    have hz:Z=false:=by rw[hzz];simp[inR,d3]
    simp(maxSteps:=1000000) (disch:=first|omega|(simp;done)|(simp;omega)) [z6G,z8pa,z7pa,hQ2,hQ9,hz]
   rw[hT];clear hT
   have hz:Z=z9Bb x.cmd (z3xc x.cmd):=by rw[hzz,z68c,d3];simp[inR,d1,d2]
   simp(maxSteps:=1000000) (disch:=first|omega|(simp;done)|(simp;omega)) [z6G,z8pa,z7pa,z2Na,hl,d1,d2,d3,hQ2,hQ9,hz]
end Go.Abs
end

section
namespace Go.Abs
set_option maxRecDepth 100000
def e0R:z2n:=⟨0,0,0,0,z8u,[],[],[]⟩
def atE (l:List z2n) (i:Nat):z2n:=l.getD i e0R
theorem z1pc {l:List z2n} {i:Nat} (h:i<l.length):atE l i=l[i]:=by
 simp[atE,List.getD,List.getElem?_eq_getElem h]
theorem z7pd {l:List z2n} {i:Nat} (h:i<l.length):atE l i∈l:=by rw[z1pc h];exact List.getElem_mem h
def z3Qd (l:List z2n) (i:Nat):Bool:=okE (atE l i)&&(decide (i=0)||decide ((atE l (i-1)).time≤(atE l i).time))
def z4Yd (l:List z2n):Bool:=(List.range l.length).all (z3Qd l)
def z3pc (s:Int) (k:Nat) (l:List z2n):Bool:=z4Yd l&&okP s k&&decide (s≤60000)
def z5Yc (s:Int) (nr ne:Option Bool) (r:List (List UInt8)) (l:List z2n):z0a:= .agg [i64 s,z3Ea nr r,z5ta ne l]
structure z8Hd (s:Int) (r:List (List UInt8)) (l:List z2n):Prop where
 hs:inI s
 hr:z9n r
 hrl:r.length≤1000000
 he:z3Ab l
 hn:l.length≤200
def gLs (d:z0a):Int:=match d with| .agg (a::_)=>asI a|_=>0
def z7qc:z1f:=⟨fun ds=>∃(s:Int) (r:List (List UInt8)) (l:List z2n),z8Hd s r l∧ds=[z5Yc s none none r l],fun ds=>bo (z3pc (gLs (nth ds 0)) (z0Fb (nth ds 0)).roots.length (z0Fb (nth ds 0)).ents)⟩
theorem z05c {s:Int} {r:List (List UInt8)} {l:List z2n} (h:z8Hd s r l):z7qc.pre [z5Yc s none none r l]=True:=eq_true ⟨s,r,l,h,rfl⟩
theorem z5ic {s:Int} {r:List (List UInt8)} {l:List z2n} (h:z8Hd s r l):z7qc.post [z5Yc s none none r l]=bo (z3pc s r.length l):=by
 show bo (z3pc s (gDs (.sl .plain none r.length (bys (dgs r)))).length (z9xb l.length (z0sa l)))=_
 rw[z1Ja h.hr,z4kb h.he]
theorem z3ud {l:List z2n} {i:Nat} (h:i<l.length) (hn:z3Qd l i=false):z4Yd l=false:=by
 cases hv:z4Yd l with
 |false=>rfl
 |true=>
  have:=List.all_eq_true.1 hv i (List.mem_range.2 h)
  rw[hn] at this;cases this
theorem z21c {l:List z2n} (h:∀j<l.length,z3Qd l j=true):z4Yd l=true:=List.all_eq_true.2 fun i hi=>h i (List.mem_range.1 hi)
theorem z6Bd {s:Int} {r:List (List UInt8)} {l:List z2n} (h:z8Hd s r l) (hv:z3pc s r.length l=true):0≤s∧z0n.ok ⟨s.toNat,r,l⟩∧s≤60000:=by
 simp only[z3pc,okP,Bool.and_eq_true,decide_eq_true_eq] at hv
 refine⟨hv.1.2.1.1,⟨h.hr,hv.1.2.2,h.he,by have:=h.hn;simp only;omega,?_⟩,hv.2⟩
 have:=h.hn
 simp only
 omega
set_option maxHeartbeats 8000000 in
theorem z00c (E:Env) (h331:E.G 331=z2kc) (h211:E.G 211=z4kc):∀ds,z7qc.pre ds→ds.length=z4ra.n∧awp E z4ra.body (z4xa z4ra.res (z7qc.post ds)) (z4H z4ra.wr ds):=by
 rintro _ ⟨s,r,l,h,rfl⟩
 rw[z5ic h]
 have hlen:=z3xa h.he
 have hn:=h.hn
 have v1:=z16b (nl:=none) h.hs h.hr h.hrl rfl rfl
 have v2:=z7qb (n:=s) (m:= .plain) (nl:=none) h.hr rfl rfl
 unfold z5Yc z3Ea z5ta
 generalize hQf:z4xa z4ra.res (bo (z3pc s r.length l))=Qf
 simp(maxSteps:=1000000) (disch:=first|omega|(simp;done)|(simp;omega)) [z6G,z8pa,z7pa,z4ra]
 refine z1g fun Q1 hQ1=> ?_
 refine z1v (fun i:Nat=>⟨[(0,.agg [i64 s,.sl .plain none r.length (bys (dgs r)),.sl .plain none l.length (z0sa l)])],[(1,.bp 1 0),(6,.sl .plain none l.length (z0sa l)),(7,i64 l.length),(8,i64 i)],[(1,some [i64 s,.sl .plain none r.length (bys (dgs r)),.sl .plain none l.length (z0sa l)])]⟩) (fun i=>l.length-i) (fun i=>i≤l.length∧∀j<i,z3Qd l j=true) 0 (by simp) (by simp) fun i hi=> ?_
 obtain⟨hi,hj⟩:=hi
 refine z1g fun Q2 hQ2=> ?_
 by_cases c:i<l.length
 ·have hx:=h.he _ (z7pd c)
  have hat:=z7Eb h.he c
  rw[←z1pc c] at hat
  have hxl:=z5Ab hx
  have p1:z2kc.pre [.agg (z0va none none none (atE l i))]=True:=z3Nc hx
  have p2:z2kc.post [.agg (z0va none none none (atE l i))]=bo (okE (atE l i)):=z9Nb hx
  have hno:=z3ud c
  have hst:∀j<i+1,j<i∨j=i:=fun j hj=>by omega
  have hpr:0<i→hdA ((z0sa l).drop ((i-1)*30))=i64 (atE l (i-1)).time:=fun h0=>by rw[z1Vc h.he (show i-1<l.length by omega),z1pc (by omega)]
  have hok:z3Qd l i=(okE (atE l i)&&(decide (i=0)||decide ((atE l (i-1)).time≤(atE l i).time))):=rfl
  have hx0:=z2Bd none none none (atE l i)
  generalize hX:atE l i=x at*
  generalize hY:atE l (i-1)=y at*
  have hle2:30≤l.length*30-i*30:=by omega
  have hle3:i*30≤l.length*30:=by omega
  have i1:((i:Int)-1).toNat=i-1:=by omega
  have htk:List.take 30 (z0va none none none x)=z0va none none none x:=List.take_of_length_le (by omega)
  have sp:splice (i64 0::i64 0::i64 0::i64 0::i64 0::i64 0::i64 0::i64 0::i64 0::i64 0::st []:: .sl .plain none 0 []::(bys (z5j 16)++[.sl (.own 24) none 0 [],.sl (.own 1) none 0 []])) 0 (z0va none none none x)=z0va none none none x:=z5Ic rfl hxl
  cases b1:okE x with
  |false=>
   have hz:z3pc s r.length l=false:=by rw[z3pc,hno (by rw[hok,b1];rfl)];rfl
   simp(maxSteps:=1000000) (disch:=first|omega|(simp;done)|(simp;omega)) [z6G,z8pa,z7pa,z8sa,z2wa,kT,kF,dT,dF,c,hlen,hat,hxl,htk,hle2,hle3,sp,hQ2,hQ1,h331,p1,p2,b1,z4ra,←hQf,hz]
   skip
  |true=>
   by_cases b2:i=0
   ·subst b2
    have hat0:List.take 30 (z0sa l)=z0va none none none x:=by simpa using hat
    have h30:30≤l.length*30:=by omega
    simp(maxSteps:=1000000) (disch:=first|omega|(simp;done)|(simp;omega)) [z6G,z8pa,z7pa,z8sa,z2wa,kT,kF,dT,dF,c,hlen,hat,hxl,htk,hle2,hle3,sp,hQ2,hQ1,h331,p1,p2,b1,hat0,h30]
    refine⟨1,by omega,⟨by omega,fun j hj'=> ?_⟩,by omega⟩
    obtain rfl:j=0:=by omega
    rw[hok];simp[b1]
   ·have b3:0<i:=by omega
    have hy:=hpr b3
    by_cases b4:x.time<y.time
    ·have hz:z3pc s r.length l=false:=by rw[z3pc,hno (by rw[hok];simp[b2,b4])];rfl
     simp(maxSteps:=1000000) (disch:=first|omega|(simp;done)|(simp;omega)) [z6G,z8pa,z7pa,z8sa,z2wa,kT,kF,dT,dF,c,hlen,hat,hxl,htk,hle2,hle3,sp,hQ2,hQ1,h331,p1,p2,b1,b3,b4,i1,hy,hx0,z4ra,←hQf,hz]
     exact⟨⟨by omega,by omega⟩,by omega⟩
    ·simp(maxSteps:=1000000) (disch:=first|omega|(simp;done)|(simp;omega)) [z6G,z8pa,z7pa,z8sa,z2wa,kT,kF,dT,dF,c,hlen,hat,hxl,htk,hle2,hle3,sp,hQ2,hQ1,h331,p1,p2,b1,b3,b4,i1,hy,hx0]
     refine⟨⟨by omega,by omega⟩,by omega,i+1,by omega,⟨by omega,fun j hj'=> ?_⟩,by omega⟩
     rcases hst j hj' with h'|rfl
     ·exact hj j h'
     ·rw[hok];simp[b1,Int.not_lt.1 b4]
 ·obtain rfl:i=l.length:=by omega
  have hz:z4Yd l=true:=z21c hj
  cases b1:okP s r.length with
  |false=>
   have hz:z3pc s r.length l=false:=by rw[z3pc,b1];simp
   simp(maxSteps:=1000000) (disch:=first|omega|(simp;done)|(simp;omega)) [z6G,z8pa,z7pa,z8sa,z5Fa,kT,kF,dT,dF,hQ2,hQ1,z4ra,←hQf,h211,v1,v2,hz,b1]
   skip
  |true=>
   have hz:z3pc s r.length l=decide (s≤60000):=by rw[z3pc,b1,hz];rfl
   simp(maxSteps:=1000000) (disch:=first|omega|(simp;done)|(simp;omega)) [z6G,z8pa,z7pa,z8sa,z5Fa,kT,kF,dT,dF,hQ2,hQ1,z4ra,←hQf,h211,v1,v2,hz,b1]
   skip
end Go.Abs
end

section
namespace Go.Abs
theorem z7nd (E:Env) (h12:E.G 12=z2L):∀ds,z0Ra.pre ds→ds.length=z7La.n∧awp E z7La.body (z4xa z7La.res (z0Ra.post ds)) (z4H z7La.wr ds):=by
 rintro _ ⟨nl,l,hl,hm,rfl⟩
 rw[z0Ra,z0Vb]
 have hi0:=z4Da (n:=l.length) (z0Nc (by omega))
 simp(maxSteps:=1000000) (disch:=first|omega|(simp;done)|(simp;omega)) [z6G,z8pa,z7pa,z7La,h12,z63b]
 refine z1g fun Q0 hQ0=> ?_
 refine z1v (fun i:Nat=>⟨[(0,.sl .plain nl l.length (z6Ba l))],[(3,.sl (.own 1) (some false) (z3r l.length++(l.take i).flatMap z3r).length (bys (z3r l.length++(l.take i).flatMap z3r))),(9,.sl .plain nl l.length (z6Ba l)),(10,i64 l.length),(11,i64 i)],[]⟩) (fun i=>l.length-i) (· ≤l.length) 0 (by simp) (by simp) fun i hi=> ?_
 refine z1g fun Q1 hQ1=> ?_
 simp(maxSteps:=1000000) (disch:=first|omega|(simp;done)|(simp;omega)) [z6G,z8pa,z7pa,z3xb,-List.length_flatMap]
 rw[z4h]
 refine⟨by simp,fun h1=> ?_,fun h1=> ?_⟩<;>simp at h1
 ·have h1':i<l.length:=by omega
  have hs:=z8Da l z3r 0 h1'
  rw[show l.getD i 0=atI l i from rfl] at hs
  obtain⟨g0,g1⟩:=hm _ (z8nc h1')
  have g2:=z4Da (hm _ (z8nc h1'))
  have g3:=z1xa (l:=l.take i) fun x hx=>hm x (List.mem_of_mem_take hx)
  rw[List.length_take] at g3
  generalize hF:(l.take i).flatMap z3r=F at*
  generalize hX:atI l i=x at*
  simp(maxSteps:=1000000) (disch:=first|omega|(simp;done)|(simp;omega)) [z6G,z8pa,z7pa,z2xb,z4qb,hX,h12,z63b,hQ1,-List.length_flatMap]
  refine⟨by omega,by omega,by omega,i+1,by omega,by omega,⟨?_,hs.symm⟩,by simp⟩
  rw[hs,List.length_append];omega
 ·have e:i=l.length:=by omega
  subst e
  simp(maxSteps:=1000000) (disch:=first|omega|(simp;done)|(simp;omega)) [z6G,z8pa,z7pa,hQ1,hQ0,z2wb,own1,z5y,-List.length_flatMap]
end Go.Abs
end

section
namespace Go.Abs
set_option maxRecDepth 100000
@[simp] theorem z37 (ids:List Nat) (f:Nat→List z0a) (n:Int):z8F ids f (i64 n)=i64 n:=rfl
@[simp] theorem z2ma (ids:List Nat) (f:Nat→List z0a) (b:Bool):z8F ids f (bo b)=bo b:=rfl
@[simp] theorem z7ka (ids:List Nat) (f:Nat→List z0a) (s:List UInt8):z8F ids f (st s)=st s:=rfl
theorem z8Db {l:List Int} (h:∀x∈l,z2e x) (hl:l.length≤1000000000):(z5y l).length≤9*l.length+9:=by
 have e1:=z4Da (n:=(l.length:Int)) (by constructor<;>omega)
 have e2:=z1xa h
 rw[z5y,List.length_append]
 omega
theorem z6Ed {m:z3P} (h:m.ok):(z27b m).length≤97:=by
 have h1:=z8Db (z1zc h) (by simp[z6ha])
 have h2:=h.2.2.2.2.2.2.2
 rw[z27b,List.length_append,h2]
 simp only[z6ha,List.length_cons,List.length_nil] at h1⊢
 omega
theorem z97b:∀{l:List z3P},z01a l→(l.flatMap z27b).length≤97*l.length
 |[],_=>by simp
 |a::l,h=>by
  have h1:=z6Ed (h a (by simp))
  have h2:=z97b (l:=l) fun m hm=>h m (by simp[hm])
  rw[List.flatMap_cons,List.length_append,List.length_cons]
  omega
theorem z8mc {l:List Int} {n:Nat} {cs:List z0a} (nl:Option Bool) (h:∀x∈l,z2e x) (hl:l.length≤100000000) (hn:n=l.length) (hc:cs=z6Ba l):z0Ra.pre [.sl .plain nl n cs]=True:=by
 subst hn hc
 exact z2Ac hl h rfl
theorem z94b {l:List Int} {n:Nat} {cs:List z0a} (nl:Option Bool) (hc:cs=z6Ba l):z0Ra.post [.sl .plain nl n cs]= .sl (.own 1) (some false) (z5y l).length (bys (z5y l)):=by
 subst hc
 rw[z0Ra,z0Vb];rfl
theorem z6Yc {x:z2n} (h:x.ok):∀z∈[x.time,x.kind,x.req,x.mode],z2e z:=by
 obtain⟨h1,h2,h3,h4,_⟩:=h
 intro z hz
 simp only[List.mem_cons,List.not_mem_nil,or_false] at hz
 rcases hz with rfl|rfl|rfl|rfl<;>assumption
def z9dd (x:z2n):List UInt8:=z5y [x.time,x.kind,x.req,x.mode]++(z2X (z3ic x.cmd)++(x.dig++z3r x.made.length))
theorem z8fd (x:z2n):z5Wb x=(z9dd x++x.made.flatMap z27b)++z5y x.gone:=by simp[z5Wb,z9dd]
theorem z1Uc {x:z2n} (h:x.small):(z9dd x).length≤2000001000:=by
 have h1:=z8Db (z6Yc h.1) (by simp)
 have h2:=z7sc h.2.1
 have h3:=z4Da (n:=((z3ic x.cmd).length:Int)) (by constructor<;>omega)
 have h4:=z4Da (n:=(x.made.length:Int)) (by have:=h.2.2.1;constructor<;>omega)
 have h5:=h.1.2.2.2.2.2.1
 simp only[List.length_cons,List.length_nil] at h1
 rw[z9dd,z2X]
 simp only[List.length_append,h5]
 omega
set_option maxHeartbeats 16000000 in
theorem z80c (E:Env) (h39:E.G 39=z0Ra) (h130:E.G 130=z7ac) (h7:E.G 7=z7lb) (h12:E.G 12=z2L) (h129:E.G 129=z3Ja):∀ds,z7kc.pre ds→ds.length=z1Ca.n∧awp E z1Ca.body (z4xa z1Ca.res (z7kc.post ds)) (z4H z1Ca.wr ds):=by
 rintro _ ⟨nc,nm,ng,x,hx,rfl⟩
 rw[z7ec hx,z8fd]
 have hd:=hx.1.2.2.2.2.2.1
 have h16:=hx.1.2.2.2.2.2.2.1
 have hgo:=hx.1.2.2.2.2.2.2.2
 have hml:=hx.2.2.1
 have hgl:=hx.2.2.2
 have hl:=z8Qa (nc:=nc) (nm:=nm) (ng:=ng) hd
 have h28:=z7Lb (nc:=nc) (nm:=nm) (ng:=ng) hd
 have h29:=z6Lb (nc:=nc) (nm:=nm) (ng:=ng) hd
 have hg:=z6Fb (nc:=nc) (nm:=nm) (ng:=ng) hd
 have hlen:=z2Xa (z0Ba h16)
 have hHl:=z1Uc hx
 have hc2:=z7sc hx.2.1
 have hp4:z0Ra.pre [.sl .plain (some false) 4 [i64 x.time,i64 x.kind,i64 x.req,i64 x.mode]]=True:=z8mc (some false) (z6Yc hx.1) (by simp) rfl rfl
 have hq4:z0Ra.post [.sl .plain (some false) 4 [i64 x.time,i64 x.kind,i64 x.req,i64 x.mode]]=_:=z94b (l:=[x.time,x.kind,x.req,x.mode]) (some false) rfl
 have hpg:z0Ra.pre [.sl .plain ng x.gone.length (z6Ba x.gone)]=True:=z8mc ng hgo (by omega) rfl rfl
 have hqg:z0Ra.post [.sl .plain ng x.gone.length (z6Ba x.gone)]=_:=z94b (l:=x.gone) ng rfl
 have hgle:=z8Db hgo (by omega)
 have hib:=z63b (n:=(x.made.length:Int)) (by omega) (by omega)
 have hcp:z3Ja.pre [.sl .plain (some false) 4 [.sl (.own 1) (some false) (z5y [x.time,x.kind,x.req,x.mode]).length (bys (z5y [x.time,x.kind,x.req,x.mode])),.sl (.own 1) (some false) (z2X (z3ic x.cmd)).length (bys (z2X (z3ic x.cmd))),.sl .plain (some false) 16 (bys x.dig),.sl (.own 1) (some false) (z3r x.made.length).length (bys (z3r x.made.length))]]=True:=by
  have:=z6yb (nl:=some false) (n:=4) (ps:=[(true,some false,z5y [x.time,x.kind,x.req,x.mode]),(true,some false,z2X (z3ic x.cmd)),(false,some false,x.dig),(true,some false,z3r x.made.length)]) (by
   have e:=hHl
   simp only[z9dd,List.length_append] at e
   simp only[z9ed,List.map_cons,List.map_nil,List.sum_cons,List.sum_nil]
   omega) (by simp) rfl
  rw[←hd]
  exact this
 have hcq:z3Ja.post [.sl .plain (some false) 4 [.sl (.own 1) (some false) (z5y [x.time,x.kind,x.req,x.mode]).length (bys (z5y [x.time,x.kind,x.req,x.mode])),.sl (.own 1) (some false) (z2X (z3ic x.cmd)).length (bys (z2X (z3ic x.cmd))),.sl .plain (some false) 16 (bys x.dig),.sl (.own 1) (some false) (z3r x.made.length).length (bys (z3r x.made.length))]]= .sl (.own 1) none (z9dd x).length (bys (z9dd x)):=by
  have:=z0rb (some false) 4 [(true,some false,z5y [x.time,x.kind,x.req,x.mode]),(true,some false,z2X (z3ic x.cmd)),(false,some false,x.dig),(true,some false,z3r x.made.length)]
  simp only[List.flatMap_cons,List.flatMap_nil,List.append_nil] at this
  rw[←hd]
  exact this
 generalize hH:z9dd x=H at*
 generalize hG:z5y x.gone=G at*
 generalize h4:z5y [x.time,x.kind,x.req,x.mode]=e4 at*
 generalize hSS:z2X (z3ic x.cmd)=eS at*
 generalize hN:z3r x.made.length=eN at*
 simp(maxSteps:=1000000) (disch:=first|omega|(simp;done)|(simp;omega)) [z6G,z8pa,z7pa,z1Ca,hl,h39,hp4,hq4,h130,z8bd hx.2.1,z2ac,h7,z2Bb,hSS,hg,h28,h12,hib,hN,h129,hcp,hcq,-z8pa,-List.length_append]
 refine z1g fun Q0 hQ0=> ?_
 refine z1v (fun i:Nat=>⟨[(0,.agg (z0va nc nm ng x))],[(1,.ep (z0va nc nm ng x)),(3,.sl (.own 1) none (H++(x.made.take i).flatMap z27b).length (bys (H++(x.made.take i).flatMap z27b))),(31,.sl .plain nm x.made.length (z5za x.made)),(32,i64 x.made.length),(33,i64 i)],[]⟩)
  (fun i=>x.made.length-i) (fun i=>i≤x.made.length) 0 (by simp) (by simp) fun i hi=> ?_
 refine z1g fun Q1 hQ1=> ?_
 have hBl:(H++(x.made.take i).flatMap z27b).length≤2000001000+97*i:=by
  have:=z97b (l:=x.made.take i) fun m hm=>h16 m (List.mem_of_mem_take hm)
  rw[List.length_append]
  rw[List.length_take] at this
  omega
 by_cases h1:i<x.made.length
 ·have hm:=h16 _ (z5rc h1)
  have hmd:=hm.2.2.2.2.2.2.2
  have ha:=z1ed h16 h1
  have hmll:=z0Ka hmd
  have hle:24≤x.made.length*24-i*24:=by omega
  have hle2:i*24≤x.made.length*24:=by omega
  have hs:(x.made.take (i+1)).flatMap z27b=(x.made.take i).flatMap z27b++z27b (atD x.made i):=by
   rw[List.take_succ_eq_append_getElem h1,List.flatMap_append,z26b h1];simp
  have hnok:=z1zc hm
  have e8l:=z8Db hnok (by simp[z6ha])
  generalize hX:atD x.made i=X at*
  have sp:splice (i64 0::i64 0::i64 0::i64 0::i64 0::i64 0::i64 0::bo false::bys (z5j 16)) 0 (z7Ka X)=z7Ka X:=z0Oc hmd rfl
  have mtk:=z3Md hmd
  have nl8:(z6ha X).length=8:=rfl
  rw[nl8] at e8l
  have key:∀r:Int,z3de X.raw=r→z0Ra.pre [.sl .plain (some false) 8 [i64 X.id,i64 X.ty,i64 X.uses,i64 X.beg,i64 X.fin,i64 X.ver,i64 X.par,i64 r]]=True∧
    z0Ra.post [.sl .plain (some false) 8 [i64 X.id,i64 X.ty,i64 X.uses,i64 X.beg,i64 X.fin,i64 X.ver,i64 X.par,i64 r]]= .sl (.own 1) (some false) (z5y (z6ha X)).length (bys (z5y (z6ha X))):=by
   rintro r rfl
   exact⟨z8mc (l:=z6ha X) (some false) hnok (by rw[nl8];omega) rfl rfl,z94b (l:=z6ha X) (some false) rfl⟩
  have hcat:z27b X=z5y (z6ha X)++X.dig:=rfl
  generalize hE:z5y (z6ha X)=e8 at*
  generalize hB:H++(x.made.take i).flatMap z27b=B at*
  have hcp8:z3Ja.pre [.sl .plain (some false) 3 [.sl (.own 1) none B.length (bys B),.sl (.own 1) (some false) e8.length (bys e8),.sl .plain (some false) 16 (bys X.dig)]]=True:=by
   have:=z6yb (nl:=some false) (n:=3) (ps:=[(true,none,B),(true,some false,e8),(false,some false,X.dig)]) (by
    simp only[z9ed,List.map_cons,List.map_nil,List.sum_cons,List.sum_nil]
    omega) (by simp) rfl
   rw[←hmd]
   exact this
  have hcq8:z3Ja.post [.sl .plain (some false) 3 [.sl (.own 1) none B.length (bys B),.sl (.own 1) (some false) e8.length (bys e8),.sl .plain (some false) 16 (bys X.dig)]]= .sl (.own 1) none (B++z27b X).length (bys (B++z27b X)):=by
   have:=z0rb (some false) 3 [(true,none,B),(true,some false,e8),(false,some false,X.dig)]
   simp only[List.flatMap_cons,List.flatMap_nil,List.append_nil] at this
   rw[←hmd,hcat]
   exact this
  have hs':H++(x.made.take (i+1)).flatMap z27b=B++z27b X:=by rw[hs,←List.append_assoc,hB]
  generalize hBX:B++z27b X=B' at*
  cases hr:X.raw
  ·obtain⟨k1,k2⟩:=key 0 (by rw[hr];rfl)
   simp(maxSteps:=1000000) (disch:=first|omega|(simp;done)|(simp;omega)) [z6G,z8pa,z7pa,z6Ja,z1Va,z8Va,kT,kF,dT,dF,h1,hlen,hle,hle2,ha,sp,hmll,mtk,z5Nb,z82b,hr,h39,k1,k2,h129,hcp8,hcq8,z0Zd hmd,hmd,hQ1,-z8pa,-List.length_append]
   exact⟨i+1,by omega,by omega,⟨by rw[hs'],by rw[hs']⟩,by omega⟩
  ·obtain⟨k1,k2⟩:=key 1 (by rw[hr];rfl)
   simp(maxSteps:=1000000) (disch:=first|omega|(simp;done)|(simp;omega)) [z6G,z8pa,z7pa,z6Ja,z1Va,z8Va,kT,kF,dT,dF,h1,hlen,hle,hle2,ha,sp,hmll,mtk,z5Nb,z82b,hr,h39,k1,k2,h129,hcp8,hcq8,z0Zd hmd,hmd,hQ1,-z8pa,-List.length_append]
   exact⟨i+1,by omega,by omega,⟨by rw[hs'],by rw[hs']⟩,by omega⟩
 ·obtain rfl:i=x.made.length:=by omega
  rw[List.take_length] at*
  generalize hB:H++x.made.flatMap z27b=B at*
  simp(maxSteps:=1000000) (disch:=first|omega|(simp;done)|(simp;omega)) [z6G,z8pa,z7pa,z6Ja,kT,kF,dT,dF,hQ1,hQ0,z2eb,hl,h29,h39,hpg,hqg,-List.length_append]
  exact⟨by omega,List.length_append,by rw[←hB,List.append_assoc]⟩
theorem z0bd (E:Env) (h302:E.G 302=z7kc) (h8:E.G 8=ofC):∀ds,z3Gb.pre ds→ds.length=z0Da.n∧awp E z0Da.body (z4xa z0Da.res (z3Gb.post ds)) (z4H z0Da.wr ds):=by
 rintro _ ⟨nc,nm,ng,x,hx,rfl⟩
 rw[z9Qb hx]
 have hd:=hx.1.2.2.2.2.2.1
 have hl:=z8Qa (nc:=nc) (nm:=nm) (ng:=ng) hd
 have htk:=z6ed (nc:=nc) (nm:=nm) (ng:=ng) hd
 have hle:(z5Wb x).length≤2200000000:=by
  have h1:=z1Uc hx
  have h2:=z97b hx.1.2.2.2.2.2.2.1
  have h3:=z8Db hx.1.2.2.2.2.2.2.2 (by have:=hx.2.2.2;omega)
  have h4:=hx.2.2.1
  have h5:=hx.2.2.2
  rw[z8fd,List.length_append,List.length_append]
  omega
 have hp:ofC.pre [i64 8,.sl .plain (some false) 1 [st (z5Wb x)]]=True:=z8Td (l:=[z5Wb x]) rfl (by rw[tot1];omega)
 simp(maxSteps:=1000000) (disch:=first|omega|(simp;done)|(simp;omega)) [z6G,z8pa,z7pa,z0Da,hl,htk,h302,z14c hx,z7ec hx,h8,hp,z8e,z1k,z5xa,z8ya,z0e]
end Go.Abs
end

section
namespace Go.Abs
set_option maxRecDepth 100000
def z8Fb:z1c:=
 Yd 20 (.region [2,4] [.norm [2,13]] [Ym 21 5,Yo 22 (.idxSl 1 (.s 21) (.c (i64 0))),Yj 23 22,Ym 24 5,Yo 25 (.idxSl 1 (.s 24) (.c (i64 1))),Yj 26 25,Ym 27 5,Yo 28 (.idxSl 1 (.s 27) (.c (i64 2))),Yj 29 28,Ym 30 5,Yo 31 (.idxSl 1 (.s 30) (.c (i64 3))),Yj 32 31,Yo 33 (.build (List.replicate 10 (i64 0)++[st []]++[.sl .plain none 0 []]++bys (z5j 16)++[.sl .plain (some true) 0 []]++[.sl .plain none 0 []]) [(0,1,.s 23),(1,1,.s 26),(2,1,.s 29),(3,1,.s 32)]),Ys 30 2 2 33]) (Yy [2,4])
def z3Bb:z1c:=
 Yd 53 (Yy [2,4,7,8]) (YY [2,4])
def z6Ab:z1c:=
 Yd 70 (.region [2,4,7,8] [.norm [2,13]] [Yf 71 28 2,Yo 72 (.load none (some 2) true (.s 71)),Ym 73 9,Yo 74 (.idxSl 1 (.s 73) (.c (i64 0))),Yj 75 74,Ym 76 9,Yo 77 (.idxSl 1 (.s 76) (.c (i64 1))),Yj 78 77,Ym 79 9,Yo 80 (.idxSl 1 (.s 79) (.c (i64 2))),Yj 81 80,Ym 82 9,Yo 83 (.idxSl 1 (.s 82) (.c (i64 3))),Yj 84 83,Ym 85 9,Yo 86 (.idxSl 1 (.s 85) (.c (i64 4))),Yj 87 86,Ym 88 9,Yo 89 (.idxSl 1 (.s 88) (.c (i64 5))),Yj 90 89,Ym 91 9,Yo 92 (.idxSl 1 (.s 91) (.c (i64 6))),Yj 93 92,Ym 94 9,Yo 95 (.idxSl 1 (.s 94) (.c (i64 7))),Yj 96 95,YB 97 .eql 96 1,Ym 98 4,Yo 99 (.callm 325 none [.s 98,.c (.fn 320 [] [])] [(0,13)] []),Yo 100 (.build (List.replicate 7 (i64 0)++[bo false]++bys (z5j 16)) [(0,1,.s 75),(1,1,.s 78),(2,1,.s 81),(3,1,.s 84),(4,1,.s 87),(5,1,.s 90),(6,1,.s 93),(7,1,.s 97),(8,16,.s 99)]),Yo 101 (.buildSl 24 1 [i64 0,i64 0,i64 0,i64 0,i64 0,i64 0,i64 0,bo false,u8 0,u8 0,u8 0,u8 0,u8 0,u8 0,u8 0,u8 0,u8 0,u8 0,u8 0,u8 0,u8 0,u8 0,u8 0,u8 0] [(0,24,.s 100)]),Yo 102 (.append 24 80 false none none 72 (.s 101)),Yf 103 28 2,YS 2 103 102]) (Yy [2,4,7,8])
def z1Db:z1c:=
 YR [2,4,7,8,9,70] [.norm [2,13],.reB 2 28 (some 24),.norm [2,13]] [Ym 58 4,Ym 59 9,Yn 60 59,YB 61 .eql 60 8,Yo 62 (.callm 316 none [.s 58,.s 61,.c (i64 6)] [(0,13)] []),Ym 63 62,YG 63 (Ym 64 4),YG 63 (Ym 65 9),YG 63 (Yo 66 (.idxSl 1 (.s 65) (.c (i64 7)))),YG 63 (Yj 67 66),YG 63 (Yo 68 (.call 295 [.s 67,.c (i64 0),.c (i64 1)] [])),YG 63 (Yo 69 (.callm 316 none [.s 64,.s 68,.c (i64 6)] [(0,13)] [])),Yp 70 63 69] z6Ab
def z3Cb:z1c:=
 Yq (.block 1 (YR [2,4,7,8,9] [.norm [2,13]] [Ym 56 4,Yo 57 (.callm 323 none [.s 56,.c (.fn 52 [] [])] [(0,13)] []),YM 9 57] z1Db)) (Yu [2,4,7,8] [Ym 54 8,YB 55 .add 54 1,Ym 8 55])
def z0Ib:z1c:=
 Yq (YR [2,4,7,8,53] [.norm [2,13]] [Ym 45 4,Ym 46 7,Yo 47 (.call 295 [.s 46,.c (i64 0),.c (i64 4096)] []),Yo 48 (.callm 316 none [.s 45,.s 47,.c (i64 6)] [(0,13)] []),Ym 49 48,YG 49 (Ym 50 8),YG 49 (Ym 51 7),YG 49 (Yb 52 .lss 50 51),Yp 53 49 52] z3Bb) z3Cb
def z8Jb:z1c:=
 .block 0 (.loop z0Ib)
def z5Db:z1c:=
 Yd 119 (YR [2,3] [.norm [2,13]] [Yo 120 (.build (List.replicate 10 (i64 0)++[st []]++[.sl .plain none 0 []]++bys (z5j 16)++[.sl .plain none 0 []]++[.sl .plain none 0 []]) []),Ym 121 4,Yo 122 (.nilchk (.s 121)),Yf 123 1 122,Yl 124 13 123,Ys 30 2 2 120,Ym 3 124] .ret) (Yy [2])
def z6Cb:z1c:=
 YR [2,3] [.norm [2,13]] [YL 125 30 2 2,Ys 30 2 2 125,Yc 3 0] .ret
def z7Cb:z1c:=
 Yq (YR [2,4,119] [.norm [2,13]] [Ym 107 4,Ym 108 4,Yo 109 (.nilchk (.s 108)),Yf 110 0 109,Yl 111 13 110,Yn 112 111,YB 113 .eql 112 0,Ym 114 113,YG 114 (YL 115 30 2 2),YG 114 (Yk 116 300 115),Yp 117 114 116,Yo 118 (.callm 316 none [.s 107,.s 117,.c (i64 6)] [(0,13)] []),Yo 119 (.un .not (.s 118))] z5Db) z6Cb
def z5Eb:z1c:=
 YR [2,4] [.norm [2,13]] [Ym 104 4,Yo 105 (.callm 323 none [.s 104,.c (.fn 52 [] [])] [(0,13)] []),Yf 106 29 2,YO (.store none 2 true (.s 106) (.s 105))] z7Cb
def z0Lb:z1c:=
 Yq (Yr [2,4,7,8] [Yc 8 0] z8Jb) z5Eb
def z2Ib:z1c:=
 YR [2,4,7] [.norm [2,13]] [Ym 43 4,Yo 44 (.callm 326 none [.s 43,.c (.fn 45 [] [])] [(0,13)] []),Ym 7 44] z0Lb
def z4Ib:z1c:=
 YR [2,4] [.norm [2,13]] [Ym 40 4,Yo 41 (.callm 325 none [.s 40,.c (.fn 320 [] [])] [(0,13)] []),Yf 42 12 2,Ys 16 2 42 41] z2Ib
def z5Kb:z1c:=
 YR [2,4] [.norm [2,13]] [Ym 36 4,Ym 37 6,Yo 38 (.callm 318 none [.s 36,.s 37] [(0,13)] []),Yf 39 4 2,Ys 8 2 39 38] z4Ib
def z9Ib:z1c:=
 YR [2,4,6] [.norm [2,13]] [Ym 34 4,Yo 35 (.callm 324 none [.s 34,.c (.fn 48 [] [])] [(0,13)] []),Ym 6 35] z5Kb
def z3Ib:z1c:=
 Yq (YR [2,4,5,20] [.norm [2,13]] [Ym 16 4,Ym 17 5,Yn 18 17,YB 19 .eql 18 4,Yo 20 (.callm 316 none [.s 16,.s 19,.c (i64 6)] [(0,13)] [])] z8Fb) z9Ib
def z8Ib:z1c:=
 YR [2,4,5] [.norm [2,13]] [Ym 14 4,Yo 15 (.callm 323 none [.s 14,.c (.fn 52 [] [])] [(0,13)] []),YM 5 15] z3Ib
def z1Gb:z1c:=
 YR [2,4] [.norm [2,13]] [Ym 10 0,Yo 11 (.toBytes (.s 10)),Yo 12 (.build [.sl .plain none 0 [],i64 0] [(0,1,.s 11)]),Yx 13 13 2 12,Ym 4 13] z8Ib
def z9Yb:z1ka:=
 {n:=1,wr:=[],res:=[.cell 2 (some 30) 2,.t 3],body:=YR [2] [.norm [2]] [Yo 2 (.alloc 2 (List.replicate 10 (i64 0)++[st []]++[.sl .plain none 0 []]++bys (z5j 16)++[.sl (.own 24) none 0 []]++[.sl (.own 1) none 0 []])),Yc 3 0] z1Gb}
def z42a:z1c:=
 Yd 12 (Yr [0,4] [YM 13 4,YM 4 13] .ret) (Yy [0,1,4])
def z32a:z1c:=
 Yr [0,4] [YM 30 4,YM 4 30] .ret
def z03a:z1c:=
 Yd 25 (YR [0,4] [.norm [0]] [Ym 26 0,Ym 27 7,Yo 28 (.nilchk (.s 26)),Yf 29 1 28,YS 0 29 27] z32a) (Yy [0,5,6])
def z92a:z1c:=
 Yr [0,4] [YM 40 5,YM 4 40] .ret
def z72a:z1c:=
 YR [0,5] [.norm [0]] [Ym 31 0,Ym 32 0,Yo 33 (.nilchk (.s 32)),Yf 34 0 33,Yl 35 0 34,Ym 36 6,Yo 37 (.slSl 1 (.s 35) (some (.s 36)) none none),Yo 38 (.nilchk (.s 31)),Yf 39 0 38,YO (.store none 0 true (.s 39) (.s 37))] z92a
def z41a:z1c:=
 Yq (Yr [0,4,5,6,7,25] [Ym 24 7,YB 25 .neq 24 0] z03a) z72a
def z31a:z1c:=
 YR [0,4,5,6,7] [.norm [0]] [Ym 15 1,Ym 16 0,Yo 17 (.nilchk (.s 16)),Yf 18 0 17,Yl 19 0 18,Yo 20 (.callv 52 (.s 15) [.s 19] []),Ym 14 20,Ye 21 0 14,Ye 22 1 14,Ye 23 2 14,YM 5 21,Ym 6 22,Ym 7 23] z41a
def z02a:z1c:=
 Yq (YR [0,1,4,12] [.norm [0]] [Ym 8 0,Yo 9 (.nilchk (.s 8)),Yf 10 1 9,Yl 11 0 10,YB 12 .neq 11 0] z42a) z31a
def z3ya:z1ka:=
 {n:=2,wr:=[],res:=[.t 4],body:=Yr [0,1,4] [Yo 4 (.mv true (.c (.sl (.own 1) none 0 [])))] z02a}
def z5lb:z1c:=
 Yd 15 (.region [0] [.norm [0]] [Ym 16 0,Ym 17 2,Yo 18 (.nilchk (.s 16)),Yf 19 1 18,YS 0 19 17]) (Yy [0])
def z2kb:z1c:=
 YR [0,6] [.norm [0]] [Ym 20 0,Yo 21 (.nilchk (.s 20)),Yf 22 1 21,Yl 23 0 22,YB 24 .eql 23 0,Ym 6 24] .ret
def z1kb:z1c:=
 Yq (YR [0,2,15] [.norm [0]] [Ym 7 0,Yo 8 (.nilchk (.s 7)),Yf 9 1 8,Yl 10 0 9,YB 11 .eql 10 0,Ym 12 11,YG 12 (Ym 13 1),YG 12 (Yo 14 (.un .not (.s 13))),Yp 15 12 14] z5lb) z2kb
def z3Da:z1ka:=
 {n:=3,wr:=[],res:=[.t 6],body:=Yr [0,1,2] [Yw 6 false] z1kb}
def z7Za:z1c:=
 Yd 12 (Yr [0,4] [Ym 13 4,Ym 4 13] .ret) (Yy [0,1,4])
def z4Za:z1c:=
 Yr [0,4] [Ym 30 4,Ym 4 30] .ret
def z60a:z1c:=
 Yd 25 (YR [0,4] [.norm [0]] [Ym 26 0,Ym 27 7,Yo 28 (.nilchk (.s 26)),Yf 29 1 28,YS 0 29 27] z4Za) (Yy [0,5,6])
def z9Za:z1c:=
 Yr [0,4] [Ym 40 5,Ym 4 40] .ret
def z00a:z1c:=
 YR [0,5] [.norm [0]] [Ym 31 0,Ym 32 0,Yo 33 (.nilchk (.s 32)),Yf 34 0 33,Yl 35 0 34,Ym 36 6,Yo 37 (.slSl 1 (.s 35) (some (.s 36)) none none),Yo 38 (.nilchk (.s 31)),Yf 39 0 38,YO (.store none 0 true (.s 39) (.s 37))] z9Za
def z10a:z1c:=
 Yq (Yr [0,4,5,6,7,25] [Ym 24 7,YB 25 .neq 24 0] z60a) z00a
def z40a:z1c:=
 YR [0,4,5,6,7] [.norm [0]] [Ym 15 1,Ym 16 0,Yo 17 (.nilchk (.s 16)),Yf 18 0 17,Yl 19 0 18,Yo 20 (.callv 48 (.s 15) [.s 19] []),Ym 14 20,Ye 21 0 14,Ye 22 1 14,Ye 23 2 14,Ym 5 21,Ym 6 22,Ym 7 23] z10a
def z8Za:z1c:=
 Yq (YR [0,1,4,12] [.norm [0]] [Ym 8 0,Yo 9 (.nilchk (.s 8)),Yf 10 1 9,Yl 11 0 10,YB 12 .neq 11 0] z7Za) z40a
def z2xa:z1ka:=
 {n:=2,wr:=[],res:=[.t 4],body:=Yr [0,1,4] [Yo 4 (.mv false (.c (st [])))] z8Za}
def z2cb:z1c:=
 .region [0,4,5,22,23,24] [.norm [0,4,15,22]] [Ym 28 7,Ym 29 5,Yo 30 (.callm 326 none [.s 29,.c (.fn 45 [] [])] [(0,15)] []),Yo 31 (.nilchk (.s 28)),YS 4 31 30]
def z5bb:z1c:=
 Yq (.block 1 (YR [0,4,5,7,22,23,24] [.norm [0,4,15,22]] [Yi 26 1 22 24,Yl 27 22 26,Ym 7 27] z2cb)) (Yu [0,4,5,22,23,24] [YB 32 .add 24 1,Ym 24 32])
def z7db:z1c:=
 Yq (Yd 25 (Yy [0,4,5,22,23,24]) (YY [0,4,5])) z5bb
def z8bb:z1c:=
 Yr [0,4,5,22,23,24,25] [Yb 25 .lss 24 23] z7db
def z1cb:z1c:=
 .block 0 (.loop z8bb)
def z77a:z1c:=
 YR [0,4] [.norm [0,4,15,22]] [YL 54 8 4 4,Ys 8 4 4 54] .ret
def z4db:z1c:=
 YR [0,4] [.norm [0,4,15,22]] [Ym 47 0,Ym 48 5,Yo 49 (.nilchk (.s 48)),Yf 50 1 49,Yl 51 15 50,Yo 52 (.nilchk (.s 47)),Yf 53 1 52,YS 0 53 51] z77a
def z7bb:z1c:=
 YR [0,4,5] [.norm [0,4,15,22]] [Ym 39 5,Ym 40 5,Yo 41 (.nilchk (.s 40)),Yf 42 0 41,Yl 43 15 42,Yn 44 43,YB 45 .eql 44 0,Yo 46 (.callm 316 none [.s 39,.s 45,.c (i64 6)] [(0,15)] [])] z4db
def z3cb:z1c:=
 YR [0,4,5] [.norm [0,4,15,22]] [Ym 36 5,Yo 37 (.callm 323 none [.s 36,.c (.fn 52 [] [])] [(0,15)] []),Yf 38 7 4,YO (.store none 4 true (.s 38) (.s 37))] z7bb
def z0db:z1c:=
 YR [0,4,5] [.norm [0,4,15,22]] [Ym 33 5,Yo 34 (.callm 324 none [.s 33,.c (.fn 48 [] [])] [(0,15)] []),Yf 35 6 4,YS 4 35 34] z3cb
def z6db:z1c:=
 Yq (YR [0,4,5,22,23,24] [.norm [0,4,15,22]] [Yf 16 0 4,Yf 17 1 4,Yf 18 2 4,Yf 19 3 4,Yf 20 4 4,Yf 21 5 4,Yo 22 (.buildBx 22 1 6 [.lit (.pointer none),.lit (.pointer none),.lit (.pointer none),.lit (.pointer none),.lit (.pointer none),.lit (.pointer none)] [(0,1,.s 16),(1,1,.s 17),(2,1,.s 18),(3,1,.s 19),(4,1,.s 20),(5,1,.s 21)]),Yn 23 22,Yc 24 0] z1cb) z0db
def z1db:z1c:=
 YR [0,4,5] [.norm [0,4,15]] [Ym 8 1,Yo 9 (.toBytes (.s 8)),Ym 10 0,Yo 11 (.nilchk (.s 10)),Yf 12 1 11,Yl 13 0 12,Yo 14 (.build [.sl .plain none 0 [],i64 0] [(0,1,.s 9),(1,1,.s 13)]),Yx 15 15 2 14,Ym 5 15] z6db
def z1Ba:z1ka:=
 {n:=2,wr:=[],res:=[.cell 4 (some 8) 4],body:=YR [0,1,4] [.norm [0,4]] [Yo 4 (.alloc 4 (List.replicate 6 (i64 0)++[st []]++[.sl .plain none 0 []]))] z1db}
def z71a:z1c:=
 Yd 12 (YR [0,4] [.norm [0,4]] [YL 13 16 4 4,Ys 16 4 4 13] .ret) (Yy [0,1,4])
def z91a:z1c:=
 YR [0,4] [.norm [0,4,5]] [YL 30 16 4 4,Ys 16 4 4 30] .ret
def z21a:z1c:=
 Yd 25 (YR [0,4] [.norm [0,4,5]] [Ym 26 0,Ym 27 7,Yo 28 (.nilchk (.s 26)),Yf 29 1 28,YS 0 29 27] z91a) (Yy [0,4,5,6])
def z11a:z1c:=
 YR [0,4] [.norm [0,4,5]] [YL 40 16 5 5,Ys 16 4 4 40] .ret
def z82a:z1c:=
 YR [0,4,5] [.norm [0,4,5]] [Ym 31 0,Ym 32 0,Yo 33 (.nilchk (.s 32)),Yf 34 0 33,Yl 35 0 34,Ym 36 6,Yo 37 (.slSl 1 (.s 35) (some (.s 36)) none none),Yo 38 (.nilchk (.s 31)),Yf 39 0 38,YO (.store none 0 true (.s 39) (.s 37))] z11a
def z62a:z1c:=
 Yq (Yr [0,4,5,6,7,25] [Ym 24 7,YB 25 .neq 24 0] z21a) z82a
def z12a:z1c:=
 YR [0,4,5,6,7] [.norm [0,4,5]] [Ym 15 1,Ym 16 0,Yo 17 (.nilchk (.s 16)),Yf 18 0 17,Yl 19 0 18,Yo 20 (.callv 320 (.s 15) [.s 19] []),Ym 14 20,Ye 21 0 14,Ye 22 1 14,Ye 23 2 14,Yz 5 5 16,Ys 16 5 5 21,Ym 6 22,Ym 7 23] z62a
def z51a:z1c:=
 Yq (YR [0,1,4,12] [.norm [0,4]] [Ym 8 0,Yo 9 (.nilchk (.s 8)),Yf 10 1 9,Yl 11 0 10,YB 12 .neq 11 0] z71a) z12a
def z1ya:z1ka:=
 {n:=2,wr:=[],res:=[.cell 4 (some 16) 4],body:=YR [0,1,4] [.norm [0,4]] [Yz 4 4 16] z51a}
def z5Fb:z1c:=
 Yd 7 (YR [2,3,4] [.norm [2]] [YL 8 16 2 2,Ys 16 2 2 8,Yc 3 0,Yc 4 5] .ret) (Yy [2])
def z7Jb:z1c:=
 YR [2,3,4] [.norm [2]] [Ym 9 0,Yo 10 (.slSl 1 (.s 9) none (some (.c (i64 16))) none),Yo 11 (.s2ap 16 (.s 10)),YJ 12 16 11,Ys 16 2 2 12,Yc 3 16,Yc 4 0] .ret
def z5Gb:z1c:=
 Yq (Yr [2,7] [Ym 5 0,Yn 6 5,YB 7 .lss 6 16] z5Fb) z7Jb
def z8Xb:z1ka:=
 {n:=1,wr:=[],res:=[.cell 2 (some 16) 2,.t 3,.t 4],body:=YR [2] [.norm [2]] [Yz 2 2 16,Yc 3 0,Yc 4 0] z5Gb}
def z07a:z1c:=
 Yd 12 (Yr [0,4] [Ym 13 4,Ym 4 13] .ret) (Yy [0,1,4])
def z76a:z1c:=
 Yr [0,4] [Ym 30 4,Ym 4 30] .ret
def z64a:z1c:=
 Yd 25 (YR [0,4] [.norm [0]] [Ym 26 0,Ym 27 7,Yo 28 (.nilchk (.s 26)),Yf 29 1 28,YS 0 29 27] z76a) (Yy [0,5,6])
def z05a:z1c:=
 Yr [0,4] [Ym 40 5,Ym 4 40] .ret
def z84a:z1c:=
 YR [0,5] [.norm [0]] [Ym 31 0,Ym 32 0,Yo 33 (.nilchk (.s 32)),Yf 34 0 33,Yl 35 0 34,Ym 36 6,Yo 37 (.slSl 1 (.s 35) (some (.s 36)) none none),Yo 38 (.nilchk (.s 31)),Yf 39 0 38,YO (.store none 0 true (.s 39) (.s 37))] z05a
def z86a:z1c:=
 Yq (Yr [0,4,5,6,7,25] [Ym 24 7,YB 25 .neq 24 0] z64a) z84a
def z65a:z1c:=
 YR [0,4,5,6,7] [.norm [0]] [Ym 15 1,Ym 16 0,Yo 17 (.nilchk (.s 16)),Yf 18 0 17,Yl 19 0 18,Yo 20 (.callv 45 (.s 15) [.s 19] []),Ym 14 20,Ye 21 0 14,Ye 22 1 14,Ye 23 2 14,Ym 5 21,Ym 6 22,Ym 7 23] z86a
def z16a:z1c:=
 Yq (YR [0,1,4,12] [.norm [0]] [Ym 8 0,Yo 9 (.nilchk (.s 8)),Yf 10 1 9,Yl 11 0 10,YB 12 .neq 11 0] z07a) z65a
def z7ya:z1ka:=
 {n:=2,wr:=[],res:=[.t 4],body:=Yr [0,1,4] [Yc 4 0] z16a}
end Go.Abs
end

section
namespace Go.Abs
set_option maxRecDepth 100000
end Go.Abs
end

section
namespace Go.Abs
def M32:Nat:=4294967296
def rx (y n:Nat):Nat:=Nat.shiftRight y n
def dbl (x:Nat):Nat:=Nat.mul 4294967297 x
theorem z4Bb (x:UInt32) {n:Nat} (hn:n≤32):(z0w x n).toNat=rx (dbl x.toNat) n% 2^32:=by
 have hx:=x.toNat_lt
 have e1:(z0w x n).toNat=(x.toNat>>>n)|||((x.toNat<<<(32-n))% 2^32):=by
  rw[z0w,UInt32.toNat_or]
  show(x.toBitVec>>>n).toNat|||(x.toBitVec<<<(32-n)).toNat=_
  rw[BitVec.toNat_ushiftRight,BitVec.toNat_shiftLeft]
  rfl
 have e2:rx (dbl x.toNat) n=(2^32*x.toNat+x.toNat)>>>n:=by
  show(4294967297*x.toNat)>>>n=_
  congr 1
  omega
 rw[e1,e2]
 apply Nat.eq_of_testBit_eq
 intro i
 rw[Nat.testBit_or,Nat.testBit_shiftRight,Nat.testBit_mod_two_pow,Nat.testBit_shiftLeft,Nat.testBit_mod_two_pow,Nat.testBit_shiftRight,Nat.testBit_two_pow_mul_add _ hx]
 by_cases hi:i<32
 ·by_cases h:n+i<32
  ·have h0:¬32-n≤i:=by omega
   simp[hi,h,h0]
  ·have h0:32-n≤i:=by omega
   have hf:x.toNat.testBit (n+i)=false:=Nat.testBit_lt_two_pow (Nat.lt_of_lt_of_le hx (Nat.pow_le_pow_right (by decide) (by omega)))
   simp[hi,h,h0,hf]
   congr 1
   omega
 ·have hf:x.toNat.testBit (n+i)=false:=Nat.testBit_lt_two_pow (Nat.lt_of_lt_of_le hx (Nat.pow_le_pow_right (by decide) (by omega)))
  simp[hi,hf]
def xo3 (y i j k:Nat):Nat:=Nat.mod (Nat.xor (Nat.xor (rx y i) (rx y j)) (rx y k)) M32
theorem z8hd (x:UInt32) {i j k:Nat} (hi:i≤32) (hj:j≤32) (hk:k≤32):(z0w x i^^^z0w x j^^^z0w x k).toNat=xo3 (dbl x.toNat) i j k:=by
 rw[UInt32.toNat_xor,UInt32.toNat_xor,z4Bb x hi,z4Bb x hj,z4Bb x hk]
 show _=((rx (dbl x.toNat) i^^^rx (dbl x.toNat) j)^^^rx (dbl x.toNat) k)% 2^32
 rw[Nat.xor_mod_two_pow,Nat.xor_mod_two_pow]
def xo2 (x y i j k:Nat):Nat:=Nat.xor (Nat.mod (Nat.xor (rx y i) (rx y j)) M32) (Nat.shiftRight x k)
theorem z4hd (x:UInt32) {i j:Nat} (k:Nat) (hi:i≤32) (hj:j≤32):(z0w x i^^^z0w x j^^^z8q x k).toNat=xo2 x.toNat (dbl x.toNat) i j k:=by
 rw[UInt32.toNat_xor,UInt32.toNat_xor,z4Bb x hi,z4Bb x hj]
 show _=((rx (dbl x.toNat) i^^^rx (dbl x.toNat) j)% 2^32)^^^(x.toNat>>>k)
 rw[Nat.xor_mod_two_pow]
 rfl
structure N8 where
 a:Nat
 b:Nat
 c:Nat
 d:Nat
 e:Nat
 f:Nat
 g:Nat
 h:Nat
def toN (s:H8):N8:=⟨s.a.toNat,s.b.toNat,s.c.toNat,s.d.toNat,s.e.toNat,s.f.toNat,s.g.toNat,s.h.toNat⟩
def z94d (k w:Nat) (s:N8):N8:=
 (fun x y=>N8.mk (Nat.mod (Nat.add x y) M32) s.a s.b s.c (Nat.mod (Nat.add s.d x) M32) s.e s.f s.g)
  (Nat.add (Nat.add (Nat.add (Nat.add s.h (xo3 (dbl s.e) 6 11 25)) (Nat.xor (Nat.land s.e s.f) (Nat.land (Nat.sub 4294967295 s.e) s.g))) k) w)
  (Nat.add (xo3 (dbl s.a) 2 13 22) (Nat.xor (Nat.xor (Nat.land s.a s.b) (Nat.land s.a s.c)) (Nat.land s.b s.c)))
theorem z76d (k w:UInt32) (s:H8):toN (rnd k w s)=z94d k.toNat w.toNat (toN s):=by
 have h1:=z8hd s.e (i:=6) (j:=11) (k:=25) (by decide) (by decide) (by decide)
 have h2:=z8hd s.a (i:=2) (j:=13) (k:=22) (by decide) (by decide) (by decide)
 have h3:(~~~s.e).toNat=4294967295-s.e.toNat:=by rw[UInt32.toNat_not];rfl
 simp only[toN,rnd,z94d,N8.mk.injEq,and_true,true_and]
 rw[←h1,←h2]
 generalize(z0w s.e 6^^^z0w s.e 11^^^z0w s.e 25)=S1
 generalize(z0w s.a 2^^^z0w s.a 13^^^z0w s.a 22)=S0
 simp only[UInt32.toNat_add,UInt32.toNat_xor,UInt32.toNat_and,h3]
 show _=(_+_+((s.e.toNat&&&s.f.toNat)^^^((4294967295-s.e.toNat)&&&s.g.toNat))+_+_+(_+((s.a.toNat&&&s.b.toNat)^^^(s.a.toNat&&&s.c.toNat)^^^(s.b.toNat&&&s.c.toNat))))% M32∧_=(s.d.toNat+(_+_+((s.e.toNat&&&s.f.toNat)^^^((4294967295-s.e.toNat)&&&s.g.toNat))+_+_))% M32
 simp only[M32]
 omega
def z0Ec:List Nat→List Nat→N8→N8
 |[],_,s=>s
 |_::_,[],s=>s
 |k::ks,w::ws,s=>z0Ec ks ws (z94d k w s)
theorem z3Zb (k w:Nat):∀(ks ws:List Nat) (s:N8),ks.length=ws.length→z0Ec (ks++[k]) (ws++[w]) s=z94d k w (z0Ec ks ws s)
 |[],[],s,_=>rfl
 |[],_::_,_,h=>by simp at h
 |_::_,[],_,h=>by simp at h
 |k'::ks,w'::ws,s,h=>by
  simp only[List.cons_append,z0Ec]
  exact z3Zb k w ks ws _ (by simpa using h)
def n32 (l:List UInt32):List Nat:=l.map UInt32.toNat
theorem z3jd {l:List UInt32} {i:Nat} (h:i<l.length):l.take (i+1)=l.take i++[z8i l i]:=by
 rw[List.take_succ_eq_append_getElem h,z8i,List.getD,List.getElem?_eq_getElem h];rfl
theorem z5id (w:List UInt32) (s:H8) (hw:w.length=64):∀t,t≤64→toN (z6Xb w s t)=z0Ec (n32 (kc.take t)) (n32 (w.take t)) (toN s)
 |0,_=>rfl
 |t+1,h=>by
  have hk:kc.length=64:=rfl
  have e1:n32 (kc.take (t+1))=n32 (kc.take t)++[(z8i kc t).toNat]:=by rw[z3jd (l:=kc) (by omega)];simp[n32]
  have e2:n32 (w.take (t+1))=n32 (w.take t)++[(z8i w t).toNat]:=by rw[z3jd (l:=w) (by omega)];simp[n32]
  rw[z6Xb,z76d,z5id w s hw t (by omega),e1,e2]
  exact(z3Zb _ _ _ _ _ (by simp[n32];omega)).symm
def z62d:Nat→List Nat→List Nat
 |0,acc=>acc
 |n+1,acc=>z62d n ((fun p q=>Nat.mod (Nat.add (Nat.add (Nat.add (acc.getD 15 0) (xo2 p (dbl p) 7 18 3)) (acc.getD 6 0)) (xo2 q (dbl q) 17 19 10)) M32) (acc.getD 14 0) (acc.getD 1 0)::acc)
theorem z2xc (w:List UInt32) {i:Nat} (h:i<w.length):(n32 w.reverse).getD i 0=(z8i w (w.length-1-i)).toNat:=by
 rw[n32,List.getD,List.getElem?_map,List.getElem?_eq_getElem (by simpa using h),List.getElem_reverse,z8i,List.getD,List.getElem?_eq_getElem (by omega)]
 rfl
theorem z7Pc (b:List UInt8):∀(n t:Nat),16≤t→z62d n (n32 (z4N b t).reverse)=n32 (z4N b (t+n)).reverse
 |0,_,_=>rfl
 |n+1,t,ht=>by
  have hl:=z0Ca b t
  rw[z62d,z2xc _ (by omega),z2xc _ (by omega),z2xc _ (by omega),z2xc _ (by omega),hl]
  have hs:n32 (z4N b (t+1)).reverse=(z8ha b t (z4N b t)).toNat::n32 (z4N b t).reverse:=by simp[z4N,n32]
  have e:(z8ha b t (z4N b t)).toNat=Nat.mod (Nat.add (Nat.add (Nat.add (z8i (z4N b t) (t-1-15)).toNat (xo2 (z8i (z4N b t) (t-1-14)).toNat (dbl (z8i (z4N b t) (t-1-14)).toNat) 7 18 3)) (z8i (z4N b t) (t-1-6)).toNat) (xo2 (z8i (z4N b t) (t-1-1)).toNat (dbl (z8i (z4N b t) (t-1-1)).toNat) 17 19 10)) M32:=by
   rw[z8ha,if_neg (by omega),sg0,sg1,UInt32.toNat_add,UInt32.toNat_add,UInt32.toNat_add,z4hd _ 3 (by decide) (by decide),z4hd _ 10 (by decide) (by decide)]
   simp only[Nat.sub_sub]
   show _=(_+_+_+_)% M32
   simp only[M32,Nat.reduceAdd]
   omega
  have e':=(congrArg (· ::n32 (z4N b t).reverse) e).symm.trans hs.symm
  have h':=z7Pc b n (t+1) (by omega)
  rw[←e',Nat.add_assoc,Nat.add_comm 1 n] at h'
  exact h'
def wd (b:List UInt8) (t:Nat):Nat:=Nat.add (Nat.mul 256 (Nat.add (Nat.mul 256 (Nat.add (Nat.mul 256 (at8 b (4*t)).toNat) (at8 b (4*t+1)).toNat)) (at8 b (4*t+2)).toNat)) (at8 b (4*t+3)).toNat
theorem or8 {x:UInt32} {N:Nat} (hx:x.toNat=N) (hN:N<16777216) (c:UInt8):(z7A x 8|||c.toUInt32).toNat=256*N+c.toNat:=by
 subst hx
 have hc:=c.toNat_lt
 rw[UInt32.toNat_or]
 show((x.toBitVec<<<8).toNat|||c.toUInt32.toNat)=_
 rw[BitVec.toNat_shiftLeft,UInt8.toNat_toUInt32]
 show(x.toNat<<<8% 2^32|||c.toNat)=_
 rw[Nat.mod_eq_of_lt (by rw[Nat.shiftLeft_eq];omega),←Nat.shiftLeft_add_eq_or_of_lt (by omega),Nat.shiftLeft_eq]
 omega
theorem z6be (b:List UInt8) (t:Nat):(ldw b t 4).toNat=wd b t:=by
 have h0:=(at8 b (4*t)).toNat_lt
 have h1:=(at8 b (4*t+1)).toNat_lt
 have h2:=(at8 b (4*t+2)).toNat_lt
 have e1:(ldw b t 1).toNat=(at8 b (4*t)).toNat:=by rw[ldw,ldw,or8 (N:=0) rfl (by decide)];simp
 have e2:(ldw b t 2).toNat=256*(at8 b (4*t)).toNat+(at8 b (4*t+1)).toNat:=by rw[ldw,or8 e1 (by omega)]
 have e3:(ldw b t 3).toNat=256*(256*(at8 b (4*t)).toNat+(at8 b (4*t+1)).toNat)+(at8 b (4*t+2)).toNat:=by rw[ldw,or8 e2 (by omega)]
 rw[ldw,or8 e3 (by omega)]
 rfl
def z70d:Nat→List UInt8→List Nat→List Nat
 |n+1,a::b::c::d::r,acc=>z70d n r (Nat.add (Nat.mul 256 (Nat.add (Nat.mul 256 (Nat.add (Nat.mul 256 a.toNat) b.toNat)) c.toNat)) d.toNat::acc)
 |_,_,acc=>acc
theorem z0ed (b:List UInt8) (hb:b.length=64):∀(n t:Nat),n+t=16→z70d n (b.drop (4*t)) (n32 (z4N b t).reverse)=n32 (z4N b 16).reverse
 |0,t,h=>by
  have:t=16:=by omega
  subst this
  rfl
 |n+1,t,h=>by
  have hd:b.drop (4*t)=at8 b (4*t)::at8 b (4*t+1)::at8 b (4*t+2)::at8 b (4*t+3)::b.drop (4*(t+1)):=by
   rw[List.drop_eq_getElem_cons (by omega),List.drop_eq_getElem_cons (by omega),List.drop_eq_getElem_cons (by omega),List.drop_eq_getElem_cons (by omega)]
   simp only[at8,List.getD,List.getElem?_eq_getElem (show 4*t<b.length by omega),List.getElem?_eq_getElem (show 4*t+1<b.length by omega),List.getElem?_eq_getElem (show 4*t+2<b.length by omega),List.getElem?_eq_getElem (show 4*t+3<b.length by omega),Option.getD_some]
   rfl
  have hs:n32 (z4N b (t+1)).reverse=wd b t::n32 (z4N b t).reverse:=by
   have:z8ha b t (z4N b t)=ldw b t 4:=by rw[z8ha,if_pos (by omega)]
   simp[z4N,n32,this,z6be]
  rw[hd,z70d]
  show z70d n _ (wd b t::_)=_
  rw[←hs,z0ed b hb n (t+1) (by omega)]
def kcN:List Nat:=n32 kc
def z6xc (s:N8) (b:List UInt8):N8:=
 (fun r=>N8.mk (Nat.mod (Nat.add s.a r.a) M32) (Nat.mod (Nat.add s.b r.b) M32) (Nat.mod (Nat.add s.c r.c) M32) (Nat.mod (Nat.add s.d r.d) M32) (Nat.mod (Nat.add s.e r.e) M32) (Nat.mod (Nat.add s.f r.f) M32) (Nat.mod (Nat.add s.g r.g) M32) (Nat.mod (Nat.add s.h r.h) M32))
  (z0Ec kcN (z62d 48 (z70d 16 b [])).reverse s)
theorem z0yd (s:H8) (b:List UInt8) (hb:b.length=64):toN (z5ia s b)=z6xc (toN s) b:=by
 have hw:=z0ed b hb 16 0 rfl
 have e0:b.drop (4*0)=b:=rfl
 have e1:n32 (z4N b 0).reverse=[]:=rfl
 rw[e0,e1] at hw
 have hs:=z7Pc b 48 16 (by decide)
 have hr:=z5id (z4N b 64) s (z0Ca b 64) 64 (by decide)
 rw[List.take_of_length_le (l:=z4N b 64) (by rw[z0Ca];decide),List.take_of_length_le (l:=kc) (i:=64) (Nat.le_refl _)] at hr
 have hrev:(n32 (z4N b 64).reverse).reverse=n32 (z4N b 64):=by simp[n32]
 unfold z6xc
 rw[hw,hs,hrev,kcN,←hr]
 simp only[z5ia,H8.add,toN,N8.mk.injEq]
 exact⟨UInt32.toNat_add _ _,UInt32.toNat_add _ _,UInt32.toNat_add _ _,UInt32.toNat_add _ _,UInt32.toNat_add _ _,UInt32.toNat_add _ _,UInt32.toNat_add _ _,UInt32.toNat_add _ _⟩
def z0zd:Nat→List UInt8→N8→N8
 |0,_,s=>s
 |k+1,m,s=>z0zd k (m.drop 64) (z6xc s (m.take 64))
theorem z4dc:∀(k:Nat) (m:List UInt8) (s:N8),z0zd (k+1) m s=z6xc (z0zd k m s) ((m.drop (64*k)).take 64)
 |0,_,_=>rfl
 |k+1,m,s=>by
  rw[z0zd,z4dc k,List.drop_drop,show 64+64*k=64*(k+1) by omega]
  rfl
theorem z6Nd (m:List UInt8) (s:H8):∀k,64*k≤m.length→toN (blk m s k)=z0zd k m (toN s)
 |0,_=>rfl
 |k+1,h=>by rw[blk,z0yd _ _ (by simp;omega),z6Nd m s k (by omega),z4dc]
def o4 (x:Nat):List UInt8:=[UInt8.ofNat (Nat.shiftRight x 24),UInt8.ofNat (Nat.shiftRight x 16),UInt8.ofNat (Nat.shiftRight x 8),UInt8.ofNat x]
def z24d (s:N8):List UInt8:=o4 s.a++(o4 s.b++(o4 s.c++(o4 s.d++(o4 s.e++(o4 s.f++(o4 s.g++o4 s.h))))))
theorem z5Sd (x:UInt32) (n:Nat):(z8q x n).toUInt8=UInt8.ofNat (Nat.shiftRight x.toNat n):=by
 apply UInt8.toNat_inj.1
 rw[UInt32.toNat_toUInt8,UInt8.toNat_ofNat']
 show(x.toBitVec>>>n).toNat% 256=(x.toNat>>>n)% 256
 rw[BitVec.toNat_ushiftRight]
 rfl
theorem z27d (h:H8):z6ba h 32=z24d (toN h):=by
 simp only[z6ba,z24d,o4,toN,List.nil_append,List.append_assoc,List.cons_append,z5Sd]
 rfl
def z5Od (n:Nat):List UInt8:=128::(z5j (Nat.mod (Nat.sub 119 (Nat.mod n 64)) 64)++[UInt8.ofNat (Nat.shiftRight (Nat.mul 8 n) 56),UInt8.ofNat (Nat.shiftRight (Nat.mul 8 n) 48),UInt8.ofNat (Nat.shiftRight (Nat.mul 8 n) 40),UInt8.ofNat (Nat.shiftRight (Nat.mul 8 n) 32),UInt8.ofNat (Nat.shiftRight (Nat.mul 8 n) 24),UInt8.ofNat (Nat.shiftRight (Nat.mul 8 n) 16),UInt8.ofNat (Nat.shiftRight (Nat.mul 8 n) 8),UInt8.ofNat (Nat.mul 8 n)])
theorem z2sd {x:UInt64} {N:Nat} (hx:x.toNat=N) (n:Nat):(z5n x n).toUInt8=UInt8.ofNat (Nat.shiftRight N n):=by
 apply UInt8.toNat_inj.1
 rw[UInt64.toNat_toUInt8,UInt8.toNat_ofNat']
 show(x.toBitVec>>>n).toNat% 256=(N>>>n)% 256
 rw[BitVec.toNat_ushiftRight]
 subst hx
 rfl
theorem z5ae {n:Nat} (h:n<1099511627776):z2la (UInt64.ofNat n)=z5Od n:=by
 have h1:(UInt64.ofNat n).toNat=n:=by rw[UInt64.toNat_ofNat'];omega
 have h2:(8*UInt64.ofNat n).toNat=8*n:=by
  rw[UInt64.toNat_mul,h1]
  have:(8:UInt64).toNat=8:=rfl
  rw[this];omega
 simp only[z2la,h1,z5Od,be8,List.nil_append,List.append_assoc,List.cons_append,z2sd h2,z9Xb]
 rfl
def ivN:N8:=toN iv
def z33d (b:List UInt8):List UInt8:=(fun m=>z24d (z0zd (Nat.div m.length 64) m ivN)) (b++z5Od b.length)
theorem z9Qd {b:List UInt8} (h:b.length<1099511000000):sha b=z33d b:=by
 obtain⟨h1,h2,h3⟩:=z1Jb (b:=b) (by omega)
 rw[z7Hc h,z27d,z6Nd _ _ _ (by omega)]
 show _=z24d (z0zd ((b++z5Od b.length).length/64) (b++z5Od b.length) ivN)
 rw[←z5ae (by omega)]
 rfl
end Go.Abs
end

section
namespace Go.Abs
end Go.Abs
end

section
namespace Go.Abs
set_option maxRecDepth 100000
theorem hp4 {i:Nat} (h:i<6):hdA (([.bp 4 0,.bp 4 1,.bp 4 2,.bp 4 3,.bp 4 4,.bp 4 5]:List z0a).drop i)= .bp 4 i:=by
 match i,h with
 |0,_|1,_|2,_|3,_|4,_|5,_=>rfl
end Go.Abs
end
