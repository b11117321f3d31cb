/- Lemmas: an abstract interpreter, and what the functions compute. -/
import Derived.Test.YtepddcbbkhdfiaaGreatDoorR
import Derived.KernelRfl
import Derived.Test.YtepddcbbkhdfiaaGreatDoorL
import Derived.Test.YtepddcbbkhdfiaaGreatDoorI
import Derived.Test.YtepddcbbkhdfiaaGreatDoorK
set_option linter.unusedSimpArgs false
set_option linter.unusedVariables false
set_option linter.unusedSectionVars false
section
namespace Go.Abs
set_option maxRecDepth 100000
def z0ad:z5a:=⟨fun ds=>∃m:z2q,m.ok∧ds=[.agg (z6B m)],fun ds=>bo (z3ta (z89c (gCs (nth ds 0))))⟩
theorem z1Pc {m:z2q} (h:m.ok):z0ad.pre [.agg (z6B m)]=True:=eq_true ⟨m,h,rfl⟩
theorem z5Mb (m:z2q):z0ad.post [.agg (z6B m)]=bo (z3ta m):=by
 show bo (z3ta (z89c (z6B m)))=_
 rw[z2Za]
set_option maxHeartbeats 4000000 in
theorem z0Od (E:Env) (h295:E.G 295=z8Ec):∀ds,z0ad.pre ds→ds.length=z3p.n∧awp E z3p.body (z0m z3p.res (z0ad.post ds)) (z3b z3p.wr ds):=by
 rintro _ ⟨m,hm,rfl⟩
 rw[z5Mb]
 have hd:=hm.2.2.2.2.2.2.2
 have hl:=z0A hd
 obtain⟨Z,hZ⟩:∃Z,Z=z3ta m:=⟨_,rfl⟩
 rw[←hZ]
 refine⟨rfl,?_⟩
 simp only[z3p]
 refine z4a fun Q9 hQ9=> ?_
 refine z4W fun B hB=> ?_
 simp(maxSteps:=1000000) (disch:=first|omega|(simp;done)|(simp;omega)) [z9a,z1a,z0a,hl,z8Qa,z3bb]
 rw[hB];clear hB
 rw[z6n]
 refine z4a fun Q1 hQ1=> ?_
 rw[z8z]
 refine z1d fun T hT=> ?_
 simp(maxSteps:=1000000) (disch:=first|omega|(simp;done)|(simp;omega)) [z9a,z1a,z0a,z53,hl,h295]
 by_cases c1:inR m.id 1 2147483647=true
 rotate_left
 ·refine z5c false 6 2 (by simp[c1]) (by rw[hT];kernel_rfl) (by rw[hT];kernel_rfl) ?_
  have hz:Z=false:=by rw[hZ];simp[z3ta,z3sb,z5Ab,z0Ya,c1]
  simp(maxSteps:=1000000) (disch:=first|omega|(simp;done)|(simp;omega)) [z9a,z1a,z0a,hQ1,hQ9,hz]
 rw[hT];clear hT
 refine z1d fun T hT=> ?_
 simp(maxSteps:=1000000) (disch:=first|omega|(simp;done)|(simp;omega)) [z9a,z1a,z0a,z44,hl,h295,c1]
 by_cases c2:inR m.ver 1 2147483647=true
 rotate_left
 ·refine z5c false 11 2 (by simp[c2]) (by rw[hT];kernel_rfl) (by rw[hT];kernel_rfl) ?_
  have hz:Z=false:=by rw[hZ];simp[z3ta,z3sb,z5Ab,z0Ya,c2]
  simp(maxSteps:=1000000) (disch:=first|omega|(simp;done)|(simp;omega)) [z9a,z1a,z0a,hQ1,hQ9,hz]
 rw[hT];clear hT
 refine z1d fun T hT=> ?_
 simp(maxSteps:=1000000) (disch:=first|omega|(simp;done)|(simp;omega)) [z9a,z1a,z0a,z33,hl,h295,c1,c2]
 by_cases c3:inR m.par 0 2147483647=true
 rotate_left
 ·refine z5c false 16 2 (by simp[c3]) (by rw[hT];kernel_rfl) (by rw[hT];kernel_rfl) ?_
  have hz:Z=false:=by rw[hZ];simp[z3ta,z3sb,z5Ab,z0Ya,c3]
  simp(maxSteps:=1000000) (disch:=first|omega|(simp;done)|(simp;omega)) [z9a,z1a,z0a,hQ1,hQ9,hz]
 rw[hT];clear hT
 refine z1d fun T hT=> ?_
 simp(maxSteps:=1000000) (disch:=first|omega|(simp;done)|(simp;omega)) [z9a,z1a,z0a,z95,hl,h295,c1,c2,c3]
 by_cases c4:inR m.ty 0 31=true
 rotate_left
 ·refine z5c false 21 2 (by simp[c4]) (by rw[hT];kernel_rfl) (by rw[hT];kernel_rfl) ?_
  have hz:Z=false:=by rw[hZ];simp[z3ta,z3sb,z5Ab,z0Ya,c4]
  simp(maxSteps:=1000000) (disch:=first|omega|(simp;done)|(simp;omega)) [z9a,z1a,z0a,hQ1,hQ9,hz]
 rw[hT];clear hT
 refine z1d fun T hT=> ?_
 simp(maxSteps:=1000000) (disch:=first|omega|(simp;done)|(simp;omega)) [z9a,z1a,z0a,z55,hl,h295,c1,c2,c3,c4]
 by_cases c5:z9db m.uses 956=0
 rotate_left
 ·refine z5c false 27 2 (by simp[c5]) (by rw[hT];kernel_rfl) (by rw[hT];kernel_rfl) ?_
  have hz:Z=false:=by rw[hZ];simp[z3ta,z3sb,z5Ab,z0Ya,c5]
  simp(maxSteps:=1000000) (disch:=first|omega|(simp;done)|(simp;omega)) [z9a,z1a,z0a,hQ1,hQ9,hz]
 rw[hT];clear hT
 refine z1d fun T hT=> ?_
 simp(maxSteps:=1000000) (disch:=first|omega|(simp;done)|(simp;omega)) [z9a,z1a,z0a,z36,hl,h295,c1,c2,c3,c4,c5]
 by_cases c6:inR m.beg 0 m.fin=true
 rotate_left
 ·refine z5c false 34 2 (by simp[c6]) (by rw[hT];kernel_rfl) (by rw[hT];kernel_rfl) ?_
  have hz:Z=false:=by rw[hZ];simp[z3ta,z3sb,z5Ab,z0Ya,c6]
  simp(maxSteps:=1000000) (disch:=first|omega|(simp;done)|(simp;omega)) [z9a,z1a,z0a,hQ1,hQ9,hz]
 rw[hT];clear hT
 by_cases c7:inR m.fin 0 1099511627776=true
 rotate_left
 ·have hz:Z=false:=by rw[hZ];simp[z3ta,z3sb,z5Ab,z0Ya,c7]
  simp(maxSteps:=1000000) (disch:=first|omega|(simp;done)|(simp;omega)) [z9a,z1a,z0a,hQ1,hQ9,hz,z0J,hl,h295,c1,c2,c3,c4,c5,c6,c7]
 have hz:Z=true:=by rw[hZ];simp[z3ta,z3sb,z5Ab,z0Ya,c1,c2,c3,c4,c5,c6,c7]
 simp(maxSteps:=1000000) (disch:=first|omega|(simp;done)|(simp;omega)) [z9a,z1a,z0a,z0J,hl,h295,c1,c2,c3,c4,c5,c6,c7,hQ1,hQ9,hz]
def z0Pc:z2a:= .fn 297 [] [.ep [.fn 296 [] []]]
def z0cd:z5a:=⟨fun ds=>∃m:z2q,m.ok∧ds=[.agg (z6B m),.ep [.fn 296 [] []]],fun ds=>bo (!z3ta (z89c (gCs (nth ds 0))))⟩
theorem z5ac {m:z2q} (h:m.ok):z0cd.pre [.agg (z6B m),.ep [.fn 296 [] []]]=True:=eq_true ⟨m,h,rfl⟩
theorem z7ab (m:z2q):z0cd.post [.agg (z6B m),.ep [.fn 296 [] []]]=bo (!z3ta m):=by
 show bo (!z3ta (z89c (z6B m)))=_
 rw[z2Za]
theorem z0Jd (m:z2q):(∀c∈z6B m,z0d c)=True:=eq_true fun c hc=>(z6Ra c hc).2
theorem z56d (m:z2q):(∀c∈z6B m,z5e c=false)=True:=eq_true fun c hc=>by
 rcases List.mem_append.1 hc with h|h
 ·simp only[List.mem_cons,List.not_mem_nil,or_false] at h
  rcases h with rfl|rfl|rfl|rfl|rfl|rfl|rfl|rfl<;>rfl
 ·simp only[bys,List.mem_map] at h
  obtain⟨x,_,rfl⟩:=h
  rfl
theorem tk_m {m:z2q} (h:m.dig.length=16):(z6B m).take 24=z6B m:=List.take_of_length_le (by rw[z0A h];exact Nat.le_refl _)
@[simp] theorem z2wd (m:z2q):z3f (z6B m)=true:=(z7g _).2 fun c hc=>(z6Ra c hc).1
@[simp] theorem z5pd (m:z2q):z9f (z6B m)=[]:=by simp[z6B,z9f]
theorem z1Ad (E:Env) (h296:E.G 296=z0ad):∀ds,z0cd.pre ds→ds.length=z8o.n∧awp E z8o.body (z0m z8o.res (z0cd.post ds)) (z3b z8o.wr ds):=by
 rintro _ ⟨m,hm,rfl⟩
 rw[z7ab]
 have hd:=hm.2.2.2.2.2.2.2
 have hl:=z0A hd
 simp(maxSteps:=1000000) (disch:=first|omega|(simp;done)|(simp;omega)) [z9a,z1a,z0a,z8o,h296,z1Pc hm,z5Mb,hl,z0Jd,z56d,tk_m hd,z1K]
/-! ### the first key that .. -/
def z2wc (p:z2q→Bool) (l:List z2q):Int:=if l.findIdx p<l.length then(l.findIdx p:Int) else-1
def atM (l:List z2q) (i:Nat):z2q:=l.getD i mad0
theorem z5xa {l:List z2q} {i:Nat} (h:i<l.length):atM l i=l[i]:=by simp[atM,List.getD,List.getElem?_eq_getElem h]
theorem z1Db {l:List z2q} {i:Nat} (h:i<l.length):atM l i∈l:=by rw[z5xa h];exact List.getElem_mem h
theorem z8bd {p:z2q→Bool} {l:List z2q} {i:Nat} (hi:i<l.length) (h0:∀j<i,p (atM l j)=false) (h:p (atM l i)=true):z2wc p l=i:=by
 have e:l.findIdx p=i:=by
  apply Nat.le_antisymm
  ·apply Nat.le_of_not_lt
   intro hlt
   have:=List.not_of_lt_findIdx (p:=p) (xs:=l) hlt
   rw[z5xa hi] at h
   rw[h] at this
   cases this
  ·apply Nat.le_of_not_lt
   intro hlt
   have hl:l.findIdx p<l.length:=by omega
   have h1:p l[l.findIdx p]=true:=List.findIdx_getElem (w:=hl)
   have h2:=h0 _ hlt
   rw[z5xa hl,h1] at h2
   cases h2
 rw[z2wc,e,if_pos hi]
theorem z3bd {p:z2q→Bool} {l:List z2q} (h0:∀j<l.length,p (atM l j)=false):z2wc p l= -1:=by
 rw[z2wc,if_neg]
 intro hl
 have h1:p l[l.findIdx p]=true:=List.findIdx_getElem (w:=hl)
 have h2:=h0 _ hl
 rw[z5xa hl,h1] at h2
 cases h2
theorem z6xc (p:z2q→Bool) (l:List z2q):decide (0≤z2wc p l)=l.any p:=by
 have:l.findIdx p<l.length↔l.any p=true:=by rw[List.findIdx_lt_length,List.any_eq_true]
 unfold z2wc
 cases h:l.any p
 ·rw[if_neg (fun e=>by rw[this.1 e] at h;cases h)];rfl
 ·rw[if_pos (this.2 h)];simp
theorem z6Cb {l:List z2q} (h:z9T l) {i:Nat} (hi:i<l.length):((z9n l).drop (i*24)).take 24=z6B (atM l i):=by
 have e1:=z3ga (enc:=z6B) (P:=z5xb) (w:=24) (fun a ha=>z0A ha) l i (z4s h)
 have hd:=z4s h _ (List.getElem_mem hi)
 rw[show z9n l=l.flatMap z6B from rfl,e1,List.drop_eq_getElem_cons hi,List.flatMap_cons,List.take_left' (z0A hd),z5xa hi]
theorem z5bd {l:List z2q} (h:z9T l) {i:Nat} (hi:i<l.length):i*24+24≤(z9n l).length:=by
 rw[z1aa (z4s h)]
 omega
def z5sb:z5a:=⟨fun ds=>∃(nl:Option Bool) (l:List z2q),z9T l∧l.length≤1000000∧ds=[.sl .plain nl l.length (z9n l),z0Pc],fun ds=>i64 (z2wc (fun m=> !z3ta m) (z43a (gNn (nth ds 0)) (gCs (nth ds 0))))⟩
theorem z8Hb {nl:Option Bool} {l:List z2q} (h:z9T l) (h1:l.length≤1000000):z5sb.pre [.sl .plain nl l.length (z9n l),.fn 297 [] [.ep [.fn 296 [] []]]]=True:=eq_true ⟨nl,l,h,h1,rfl⟩
theorem z1qb (nl:Option Bool) {l:List z2q} (h:z9T l):z5sb.post [.sl .plain nl l.length (z9n l),.fn 297 [] [.ep [.fn 296 [] []]]]=i64 (z2wc (fun m=> !z3ta m) l):=by
 show i64 (z2wc (fun m=> !z3ta m) (z43a l.length (z9n l)))=_
 rw[z6Ea (z4s h)]
set_option maxHeartbeats 4000000 in
theorem z6Pc (E:Env) (h297:E.G 297=z0cd):∀ds,z5sb.pre ds→ds.length=z2c.n∧awp E z2c.body (z0m z2c.res (z5sb.post ds)) (z3b z2c.wr ds):=by
 rintro _ ⟨nl,l,h16,hl,rfl⟩
 unfold z0Pc
 rw[z1qb nl h16]
 have hlen:=z1aa (z4s h16)
 simp(maxSteps:=1000000) (disch:=first|omega|(simp;done)|(simp;omega)) [z9a,z1a,z0a,z2c]
 refine z4a fun Q0 hQ0=> ?_
 refine z4e (fun i:Nat=>⟨[(0,.sl .plain nl l.length (z9n l)),(1,.fn 297 [] [.ep [.fn 296 [] []]])],[(7,i64 l.length),(8,i64 i)],[]⟩)
  (fun i=>l.length-i) (fun i=>i≤l.length∧∀j<i,(!z3ta (atM l j))=false) 0 (by simp) (by simp) fun i hi=> ?_
 obtain⟨hi,he⟩:=hi
 refine z4a fun Q1 hQ1=> ?_
 by_cases h1:i<l.length
 ·have hm:=h16 _ (z1Db h1)
  have ha:=z6Cb h16 h1
  have hle:=z5bd h16 h1
  have hle':i*24≤l.length*24:=by omega
  have hle2:24≤l.length*24-i*24:=by omega
  cases h2:z3ta (atM l i)
  ·have hR:=z8bd (p:=fun m=> !z3ta m) h1 he (by rw[h2];rfl)
   simp(maxSteps:=1000000) (disch:=first|omega|(simp;done)|(simp;omega)) [z9a,z1a,z0a,z2e,z9g,kT,kF,dT,dF,h1,ha,hlen,hle',hle2,h297,z5ac hm,z7ab,h2,z1K,hQ1,hQ0,hR]
  ·simp(maxSteps:=1000000) (disch:=first|omega|(simp;done)|(simp;omega)) [z9a,z1a,z0a,z2e,z9g,kT,kF,dT,dF,h1,ha,hlen,hle',hle2,h297,z5ac hm,z7ab,h2,z1K,hQ1]
   refine⟨i+1,by omega,⟨by omega,fun j hj=> ?_⟩,by omega⟩
   rcases Nat.lt_or_eq_of_le (Nat.lt_succ_iff.1 hj) with h|h
   ·simpa using he j h
   ·rw[h];simpa using h2
 ·have hl':i=l.length:=by omega
  have hR:=z3bd (p:=fun m=> !z3ta m) (l:=l) (fun j hj=>he j (by omega))
  simp(maxSteps:=1000000) (disch:=first|omega|(simp;done)|(simp;omega)) [z9a,z1a,z0a,z2e,kT,kF,dT,dF,h1,hQ1,hQ0,z9l,hR]
def z3Eb:z5a:=⟨z5sb.pre,fun ds=>bo (!(z43a (gNn (nth ds 0)) (gCs (nth ds 0))).all z3ta)⟩
theorem z8gb {nl:Option Bool} {l:List z2q} (h:z9T l) (h1:l.length≤1000000):z3Eb.pre [.sl .plain nl l.length (z9n l),.fn 297 [] [.ep [.fn 296 [] []]]]=True:=z8Hb h h1
theorem z7Da (nl:Option Bool) {l:List z2q} (h:z9T l):z3Eb.post [.sl .plain nl l.length (z9n l),.fn 297 [] [.ep [.fn 296 [] []]]]=bo (!l.all z3ta):=by
 show bo (!(z43a l.length (z9n l)).all z3ta)=_
 rw[z6Ea (z4s h)]
theorem z6Qc (E:Env) (h313:E.G 313=z5sb):∀ds,z3Eb.pre ds→ds.length=z8b.n∧awp E z8b.body (z0m z8b.res (z3Eb.post ds)) (z3b z8b.wr ds):=by
 rintro _ ⟨nl,l,h16,hl,rfl⟩
 unfold z0Pc
 rw[z7Da nl h16,List.all_eq_not_any_not,Bool.not_not,←z6xc]
 simp(maxSteps:=1000000) (disch:=first|omega|(simp;done)|(simp;omega)) [z9a,z1a,z0a,z8b,h313,z8Hb h16 hl,z1qb nl h16,z8Da,z1u,z7A]
end Go.Abs
end

section
namespace Go.Abs
set_option maxRecDepth 100000
theorem z78 (n lo hi:Int):inR n lo hi=true↔lo≤n∧n≤hi:=by simp[inR]
theorem z0Ha {x:z3h} (h:okE x=true):0≤x.time∧x.time≤1099511627776∧0≤x.req∧x.req≤2147483647∧1≤x.mode∧x.mode≤5∧x.made.length≤4096∧x.gone.length≤4096:=by
 simp only[okE,z78,Bool.and_eq_true,decide_eq_true_eq] at h
 simp only[z3sb,z5Ab] at h
 omega
theorem z4ha:z4S.small:=by
 refine⟨⟨?_,?_,?_,?_,?_,?_,?_⟩,by simp[z4S],by simp[z4S]⟩<;>simp[z4S,z1n]
theorem z3Rb {t m:Int} (ht:z1n t) (hm:z1n m):(z0mb t m).small:=by
 refine⟨⟨ht,by simp[z0mb,z1n],by simp[z0mb,z1n],hm,z4ha.1,rfl,fun _ h=>(by cases h),fun _ h=>(by cases h)⟩,z4ha,by simp[z0mb],by simp[z0mb]⟩
set_option maxHeartbeats 8000000 in
theorem z7Wc (E:Env) (h295:E.G 295=z8Ec) (h298:E.G 298=z3Eb) (h294:E.G 294=z9Zc) (h299:E.G 299=z5Db) (h293:E.G 293=z5Zc):∀ds,z8ub.pre ds→ds.length=z0v.n∧awp E z0v.body (z0m z0v.res (z8ub.post ds)) (z3b z0v.wr ds):=by
 rintro _ ⟨nc,nm,ng,x,hx,rfl⟩
 rw[z0Sa hx]
 have hm16:=hx.1.2.2.2.2.2.2.1
 have hd:=hx.1.2.2.2.2.2.1
 have hml:=hx.2.2.1
 have hgl:=hx.2.2.2
 have hmp:=z3Rb hx.1.1 hx.1.2.2.2.1
 have hl:=z4V (nc:=nc) (nm:=nm) (ng:=ng) hd
 have htk:=z6Lc (nc:=nc) (nm:=nm) (ng:=ng) hd
 have h28:=z55a (nc:=nc) (nm:=nm) (ng:=ng) hd
 have h29:=z76a (nc:=nc) (nm:=nm) (ng:=ng) hd
 obtain⟨Z,hZ⟩:∃Z,Z=okE x:=⟨_,rfl⟩
 rw[←hZ]
 refine⟨rfl,?_⟩
 simp only[z0v]
 refine z4a fun Q9 hQ9=> ?_
 refine z4W fun B hB=> ?_
 simp(maxSteps:=1000000) (disch:=first|omega|(simp;done)|(simp;omega)) [z9a,z1a,z0a,hl]
 rw[hB];clear hB
 rw[z6n]
 refine z4a fun Q1 hQ1=> ?_
 rw[z6n]
 refine z4a fun Q2 hQ2=> ?_
 rw[z8z]
 refine z1d fun T hT=> ?_
 simp(maxSteps:=1000000) (disch:=first|omega|(simp;done)|(simp;omega)) [z9a,z1a,z0a,z0ja,hl,h295,h28,h29]
 by_cases c1:inR x.time 0 1099511627776=true
 rotate_left
 ·refine z5c true 8 31 (by simp[c1]) (by rw[hT];kernel_rfl) (by rw[hT];kernel_rfl) ?_
  have hz:Z=false:=by
   cases hc:okE x
   ·rw[hZ,hc]
   ·have hq:=z0Ha hc
    exfalso
    first|omega|(have:=mt (z78 _ _ _).2 c1;omega)
  simp(maxSteps:=1000000) (disch:=first|omega|(simp;done)|(simp;omega)) [z9a,z1a,z0a,hQ2,hQ1,hQ9,kT,hz]
 rw[hT];clear hT
 refine z1d fun T hT=> ?_
 simp(maxSteps:=1000000) (disch:=first|omega|(simp;done)|(simp;omega)) [z9a,z1a,z0a,z1ja,hl,h295,h28,h29,c1]
 by_cases c2:inR x.req 0 2147483647=true
 rotate_left
 ·refine z5c true 14 31 (by simp[c2]) (by rw[hT];kernel_rfl) (by rw[hT];kernel_rfl) ?_
  have hz:Z=false:=by
   cases hc:okE x
   ·rw[hZ,hc]
   ·have hq:=z0Ha hc
    exfalso
    first|omega|(have:=mt (z78 _ _ _).2 c2;omega)
  simp(maxSteps:=1000000) (disch:=first|omega|(simp;done)|(simp;omega)) [z9a,z1a,z0a,hQ2,hQ1,hQ9,kT,hz]
 rw[hT];clear hT
 refine z1d fun T hT=> ?_
 simp(maxSteps:=1000000) (disch:=first|omega|(simp;done)|(simp;omega)) [z9a,z1a,z0a,z9ia,hl,h295,h28,h29,c1,c2]
 by_cases c3:inR x.mode 1 5=true
 rotate_left
 ·refine z5c true 20 31 (by simp[c3]) (by rw[hT];kernel_rfl) (by rw[hT];kernel_rfl) ?_
  have hz:Z=false:=by
   cases hc:okE x
   ·rw[hZ,hc]
   ·have hq:=z0Ha hc
    exfalso
    first|omega|(have:=mt (z78 _ _ _).2 c3;omega)
  simp(maxSteps:=1000000) (disch:=first|omega|(simp;done)|(simp;omega)) [z9a,z1a,z0a,hQ2,hQ1,hQ9,kT,hz]
 rw[hT];clear hT
 refine z1d fun T hT=> ?_
 simp(maxSteps:=1000000) (disch:=first|omega|(simp;done)|(simp;omega)) [z9a,z1a,z0a,z3ja,hl,h295,h28,h29,c1,c2,c3]
 by_cases n4:4096<(x.made.length:Int)
 ·refine z5c true 26 31 (by simp[n4]) (by rw[hT];kernel_rfl) (by rw[hT];kernel_rfl) ?_
  have hz:Z=false:=by
   cases hc:okE x
   ·rw[hZ,hc]
   ·have hq:=z0Ha hc
    exfalso
    first|omega|(have:=mt (z78 _ _ _).2 n4;omega)
  simp(maxSteps:=1000000) (disch:=first|omega|(simp;done)|(simp;omega)) [z9a,z1a,z0a,hQ2,hQ1,hQ9,kT,hz]
 rw[hT];clear hT
 by_cases n5:4096<(x.gone.length:Int)
 ·have hz:Z=false:=by
   cases hc:okE x
   ·rw[hZ,hc]
   ·have hq:=z0Ha hc
    exfalso
    first|omega|(have:=mt (z78 _ _ _).2 n5;omega)
  simp(maxSteps:=1000000) (disch:=first|omega|(simp;done)|(simp;omega)) [z9a,z1a,z0a,hQ2,hQ1,hQ9,kT,hz,z1S,hl,h295,h28,h29,c1,c2,c3,n4,n5]
 simp(maxSteps:=1000000) (disch:=first|omega|(simp;done)|(simp;omega)) [z9a,z1a,z0a,z1S,hl,h295,h28,h29,c1,c2,c3,n4,n5,hQ2,hQ1,kF]
 have q4:x.made.length≤4096:=by omega
 have q5:x.gone.length≤4096:=by omega
 cases c6:x.made.all z3ta
 ·have hz:Z=false:=by simp only[hZ,okE,c6];simp
  simp(maxSteps:=1000000) (disch:=first|omega|(simp;done)|(simp;omega)) [z9a,z1a,z0a,z8B,h298,z8gb hm16 hml,z7Da nm hm16,z8Da,z1u,z7A,hl,c6,h28,kT,kF,hQ9,hz]
 have hzz:Z=if x.kind=0 then z48 x (z0mb x.time x.mode) else inR x.kind 1 27&&(x.cmd.kind==x.kind)&&(!z9Vb x.kind||decide (x.cmd.data=[])):=by
  simp only[hZ,okE,c6,c3,q4,q5,z5Ab,z3sb,c1,c2,decide_true,Bool.true_and,Bool.and_true]
 by_cases hk:x.kind=0
 ·rw[if_pos hk] at hzz
  simp(maxSteps:=1000000) (disch:=first|omega|(simp;done)|(simp;omega)) [z9a,z1a,z0a,z8B,z2S,h298,z8gb hm16 hml,z7Da nm hm16,z8Da,z1u,z7A,hl,htk,c6,h28,kT,kF,hk,h294,h299,z9oc hx hmp,z9qb hx hmp,hQ9,hzz]
 rw[if_neg hk] at hzz
 have hk':(x.kind==0)=false:=by simpa using hk
 simp(maxSteps:=1000000) (disch:=first|omega|(simp;done)|(simp;omega)) [z9a,z1a,z0a,z8B,z2S,h298,z8gb hm16 hml,z7Da nm hm16,z8Da,z1u,z7A,hl,c6,h28,kT,kF,hk,hk']
 simp only[z7ja]
 rw[z6n]
 refine z4a fun Q3 hQ3=> ?_
 rw[z8z]
 by_cases c7:inR x.kind 1 27=true
 rotate_left
 ·have hz:Z=false:=by rw[hzz];simp[c7]
  simp(maxSteps:=1000000) (disch:=first|omega|(simp;done)|(simp;omega)) [z9a,z1a,z0a,z0T,z9B,z2w,hl,h295,c7,hQ3,hQ9,hz]
 refine z1d fun T hT=> ?_
 simp(maxSteps:=1000000) (disch:=first|omega|(simp;done)|(simp;omega)) [z9a,z1a,z0a,z0T,hl,h295,c7]
 rw[hT];clear hT
 by_cases c8:x.cmd.kind=x.kind
 rotate_left
 ·have hz:Z=false:=by rw[hzz];simp[c8]
  have c8':(x.cmd.kind==x.kind)=false:=by simpa using c8
  simp(maxSteps:=1000000) (disch:=first|omega|(simp;done)|(simp;omega)) [z9a,z1a,z0a,z9B,z2w,hl,c7,c8',hQ3,hQ9,hz]
 refine z1d fun T hT=> ?_
 simp(maxSteps:=1000000) (disch:=first|omega|(simp;done)|(simp;omega)) [z9a,z1a,z0a,z9B,hl,h295,c7,c8]
 rw[hT];clear hT
 cases c9:z9Vb x.kind
 ·have hz:Z=true:=by rw[hzz];simp[c7,c8,c9]
  simp(maxSteps:=1000000) (disch:=first|omega|(simp;done)|(simp;omega)) [z9a,z1a,z0a,z2w,h293,hl,c7,c8,c9,hQ3,hQ9,hz]
 have hz:Z=decide (x.cmd.data=[]):=by rw[hzz];simp[c7,c8,c9]
 simp(maxSteps:=1000000) (disch:=first|omega|(simp;done)|(simp;omega)) [z9a,z1a,z0a,z2w,h293,hl,c7,c8,c9,hQ3,hQ9,hz]
end Go.Abs
end

section
namespace Go.Abs
set_option maxRecDepth 100000
theorem z4Jd (E:Env):∀ds,z8Ec.pre ds→ds.length=z4m.n∧awp E z4m.body (z0m z4m.res (z8Ec.post ds)) (z3b z4m.wr ds):=by
 rintro _ ⟨n,lo,hi,rfl⟩
 rw[z5Ac]
 by_cases h1:lo≤n
 ·by_cases h2:n≤hi
  ·simp(maxSteps:=1000000) (disch:=first|omega|(simp;done)|(simp;omega)) [z9a,z1a,z0a,z4m,inR,h1,h2]
  ·simp(maxSteps:=1000000) (disch:=first|omega|(simp;done)|(simp;omega)) [z9a,z1a,z0a,z4m,inR,h1,h2]
 ·simp(maxSteps:=1000000) (disch:=first|omega|(simp;done)|(simp;omega)) [z9a,z1a,z0a,z4m,inR,h1]
/-! ### a number in a list -/
def z7Ac (l:List Int) (x:Int):Nat:=l.findIdx fun y=>decide (y=x)
def z4Fc (l:List Int) (x:Int):Int:=if z7Ac l x<l.length then(z7Ac l x:Int) else-1
def z1hb:z5a:=⟨fun ds=>∃(nl:Option Bool) (l:List Int) (x:Int),l.length≤1000000000∧ds=[.sl .plain nl l.length (z9p l),i64 x],fun ds=>i64 (z4Fc (gIs (gCs (nth ds 0))) (asI (nth ds 1)))⟩
theorem z3Ib {nl:Option Bool} {n:Nat} {l:List Int} {x:Int} (h:l.length≤1000000000) (hn:n=l.length):z1hb.pre [.sl .plain nl n (z9p l),i64 x]=True:=eq_true ⟨nl,l,x,h,by rw[hn]⟩
theorem z3nb (nl:Option Bool) (n:Nat) (l:List Int) (x:Int):z1hb.post [.sl .plain nl n (z9p l),i64 x]=i64 (z4Fc l x):=by simp[z1hb,nth]
theorem z4Pc {l:List Int} {x:Int} {i:Nat} (hi:i<l.length) (h0:∀j<i,atI l j≠x) (h:atI l i=x):z7Ac l x=i:=by
 have ha:∀j (hj:j<l.length),atI l j=l[j]:=fun j hj=>by simp[atI,List.getD,List.getElem?_eq_getElem hj]
 apply Nat.le_antisymm
 ·apply Nat.le_of_not_lt
  intro hlt
  have:=List.not_of_lt_findIdx (p:=fun y=>decide (y=x)) (xs:=l) hlt
  rw[ha i hi] at h
  simp[h] at this
 ·apply Nat.le_of_not_lt
  intro hlt
  have hl:z7Ac l x<l.length:=by omega
  have h1:decide (l[z7Ac l x]=x)=true:=List.findIdx_getElem (p:=fun y=>decide (y=x)) (xs:=l) (w:=hl)
  exact h0 _ hlt (by rw[ha _ hl];exact of_decide_eq_true h1)
theorem z7cd {l:List Int} {x:Int} (h0:∀j<l.length,atI l j≠x):z7Ac l x=l.length:=by
 apply Nat.le_antisymm (List.findIdx_le_length)
 apply Nat.le_of_not_lt
 intro hl
 have h1:decide (l[z7Ac l x]=x)=true:=List.findIdx_getElem (p:=fun y=>decide (y=x)) (xs:=l) (w:=hl)
 exact h0 _ hl (by simp only[atI,List.getD,List.getElem?_eq_getElem hl];exact of_decide_eq_true h1)
theorem z6dd (E:Env):∀ds,z1hb.pre ds→ds.length=z9q.n∧awp E z9q.body (z0m z9q.res (z1hb.post ds)) (z3b z9q.wr ds):=by
 rintro _ ⟨nl,l,x,hl,rfl⟩
 rw[z3nb]
 simp(maxSteps:=1000000) (disch:=first|omega|(simp;done)|(simp;omega)) [z9a,z1a,z0a,z9q]
 refine z4a fun Q0 hQ0=> ?_
 refine z4e (fun i:Nat=>⟨[(0,.sl .plain nl l.length (z9p l)),(1,i64 x)],[(7,i64 l.length),(8,i64 i)],[]⟩)
  (fun i=>l.length-i) (fun i=>i≤l.length∧∀j<i,atI l j≠x) 0 (by simp) (by simp) fun i hi=> ?_
 obtain⟨hi,he⟩:=hi
 refine z4a fun Q1 hQ1=> ?_
 by_cases h1:i<l.length
 ·by_cases h2:x=atI l i
  ·have hp:=z4Pc h1 he h2.symm
   have hR:z4Fc l x=(i:Int):=by rw[z4Fc,hp,if_pos h1]
   simp(maxSteps:=1000000) (disch:=first|omega|(simp;done)|(simp;omega)) [z9a,z1a,z0a,z7z,z2M,kT,kF,dT,dF,z5Ia,h1,h2,hQ1,hQ0]
   exact⟨by omega,by rw[←h2,hR]⟩
  ·simp(maxSteps:=1000000) (disch:=first|omega|(simp;done)|(simp;omega)) [z9a,z1a,z0a,z7z,z2M,kT,kF,dT,dF,z5Ia,h1,h2,hQ1]
   refine⟨by omega,i+1,by omega,⟨by omega,fun j hj=> ?_⟩,by omega⟩
   ·rcases Nat.lt_or_eq_of_le (Nat.lt_succ_iff.1 hj) with h|h
    ·exact he j h
    ·rw[h];exact fun e=>h2 e.symm
 ·have hl':i=l.length:=by omega
  have hp:=z7cd (l:=l) (x:=x) (fun j hj=>he j (by omega))
  have hR:z4Fc l x= -1:=by rw[z4Fc,hp,if_neg (by omega)]
  simp(maxSteps:=1000000) (disch:=first|omega|(simp;done)|(simp;omega)) [z9a,z1a,z0a,z7z,kT,kF,dT,dF,h1,hQ1,hQ0,z4aa,hR]
def z93a:z5a:=⟨z1hb.pre,fun ds=>bo (decide (asI (nth ds 1)∈gIs (gCs (nth ds 0))))⟩
theorem z0yc {nl:Option Bool} {n:Nat} {l:List Int} {x:Int} (h:l.length≤1000000000) (hn:n=l.length):z93a.pre [.sl .plain nl n (z9p l),i64 x]=True:=z3Ib h hn
theorem z9mb (nl:Option Bool) (n:Nat) (l:List Int) (x:Int):z93a.post [.sl .plain nl n (z9p l),i64 x]=bo (decide (x∈l)):=by simp[z93a,nth]
theorem z3tc (l:List Int) (x:Int):decide (0≤z4Fc l x)=decide (x∈l):=by
 have:z7Ac l x<l.length↔x∈l:=by
  rw[z7Ac,List.findIdx_lt_length]
  simp
 unfold z4Fc
 by_cases h:x∈l
 ·rw[if_pos (this.2 h)];simp[h]
 ·rw[if_neg (fun e=>h (this.1 e))];simp[h]
theorem z13c (E:Env) (h314:E.G 314=z1hb):∀ds,z93a.pre ds→ds.length=z8l.n∧awp E z8l.body (z0m z8l.res (z93a.post ds)) (z3b z8l.wr ds):=by
 rintro _ ⟨nl,l,x,hl,rfl⟩
 rw[z9mb,←z3tc]
 simp(maxSteps:=1000000) (disch:=first|omega|(simp;done)|(simp;omega)) [z9a,z1a,z0a,z8l,h314,z3Ib,z3nb]
theorem z9ud (E:Env) (h312:E.G 312=z93a):∀ds,z5Zc.pre ds→ds.length=z3r.n∧awp E z3r.body (z0m z3r.res (z5Zc.post ds)) (z3b z3r.wr ds):=by
 rintro _ ⟨k,rfl⟩
 rw[z7nc]
 have hp:z93a.pre [.sl .plain (some false) 8 [i64 2,i64 4,i64 5,i64 6,i64 8,i64 10,i64 15,i64 19],i64 k]=True:=z0yc (l:=[2,4,5,6,8,10,15,19]) (by simp) rfl
 have hq:z93a.post [.sl .plain (some false) 8 [i64 2,i64 4,i64 5,i64 6,i64 8,i64 10,i64 15,i64 19],i64 k]=bo (z9Vb k):=z9mb (some false) 8 [2,4,5,6,8,10,15,19] k
 simp(maxSteps:=1000000) (disch:=first|omega|(simp;done)|(simp;omega)) [z9a,z1a,z0a,z3r,h312,hp,hq]
/-! ### copies -/
theorem z3Qb {c:Cmd} (h:c.small):(z9Hb c).small:=by
 unfold z9Hb
 split
 ·exact⟨h.1,by simp,h.2.2⟩
 ·exact h
theorem z3Dd (E:Env):∀ds,z9Zc.pre ds→ds.length=z8x.n∧awp E z8x.body (z0m z8x.res (z9Zc.post ds)) (z3b z8x.wr ds):=by
 rintro _ ⟨t,m,rfl⟩
 rw[z2uc]
 simp(maxSteps:=1000000) (disch:=first|omega|(simp;done)|(simp;omega)) [z9a,z1a,z0a,z8x,z8j,z0mb,z4S,z0W,z7F,z1I,z6Jd (a:=z9c 16) (b:=z9c 16) rfl,z0be (d:=z9c 16) rfl,or_imp,forall_and,z1Hc,z5de]
 rfl
end Go.Abs
end

section
namespace Go.Abs
set_option maxRecDepth 100000
def z1na:List z2b:=
 [Yf 7 0 2,Yl 8 2 7,Yf 9 0 3,Yl 10 3 9,Yb 11 .neq 8 10,Ym 12 11]
def z9ka:List z2b:=
 [Yg 12 (Yf 13 1 2),Yg 12 (Yl 14 2 13),Yg 12 (Yf 15 1 3),Yg 12 (Yl 16 3 15),Yg 12 (Yb 17 .neq 14 16),YP 18 12 17,Ym 19 18]
def z4la:List z2b:=
 [Yg 19 (Yf 20 2 2),Yg 19 (Yl 21 2 20),Yg 19 (Yf 22 2 3),Yg 19 (Yl 23 3 22),Yg 19 (Yb 24 .neq 21 23),YP 25 19 24,Ym 26 25]
def z6ma:List z2b:=
 [Yg 26 (Yf 27 3 2),Yg 26 (Yl 28 2 27),Yg 26 (Yf 29 3 3),Yg 26 (Yl 30 3 29),Yg 26 (Yb 31 .neq 28 30),YP 32 26 31,Ym 33 32]
def z4ma:List z2b:=
 [Yg 33 (Yf 34 12 2),Yg 33 (YL 35 16 2 34),Yg 33 (Yf 36 12 3),Yg 33 (YL 37 16 3 36),Yg 33 (Yo 38 (.eqF (ks8 16) true (.s 35) (.s 37))),YP 39 33 38,Ym 40 39]
def z3ka:List z2b:=
 [Yg 40 (Yf 41 28 2),Yg 40 (Yl 42 2 41),Yg 40 (Yn 43 42),Yg 40 (Yf 44 28 3),Yg 40 (Yl 45 3 44),Yg 40 (Yn 46 45),Yg 40 (Yb 47 .neq 43 46),YP 48 40 47,Ym 49 48]
def z2na:List z2b:=
 [Yg 49 (Yf 50 29 2),Yg 49 (Yl 51 2 50),Yg 49 (Yn 52 51),Yg 49 (Yf 53 29 3),Yg 49 (Yl 54 3 53),Yg 49 (Yn 55 54),Yg 49 (Yb 56 .neq 52 55),YP 57 49 56]
def z2la:z3a:=
 Yq (.block 1 (YR [2,3,5,75] [.norm [2,3]] [Yf 65 28 2,Yl 66 2 65,Ym 67 5,Yi 68 24 66 67,YJ 69 24 68,Yf 70 28 3,Yl 71 3 70,Ym 72 5,Yi 73 24 71 72,YJ 74 24 73,Yo 75 (.eqF kM true (.s 69) (.s 74))] (Yd 75 (Yr [4] [Yw 4 false] .ret) (Yy [2,3,5])))) (Yu [2,3,5] [Ym 63 5,YB 64 .add 63 1,Ym 5 64])
def z6ka:z3a:=
 Yq (YR [2,3,5,62] [.norm [2,3]] [Ym 58 5,Yf 59 28 2,Yl 60 2 59,Yn 61 60,Yb 62 .lss 58 61] (Yd 62 (Yy [2,3,5]) (YY [2,3]))) z2la
def z4ka:z3a:=
 Yq (.block 3 (YR [2,3,6,93] [.norm [2,3]] [Yf 83 29 2,Yl 84 2 83,Ym 85 6,Yi 86 1 84 85,Yj 87 86,Yf 88 29 3,Yl 89 3 88,Ym 90 6,Yi 91 1 89 90,Yj 92 91,Yb 93 .neq 87 92] (Yd 93 (Yr [4] [Yw 4 false] .ret) (Yy [2,3,6])))) (Yu [2,3,6] [Ym 81 6,YB 82 .add 81 1,Ym 6 82])
def z9la:z3a:=
 Yq (YR [2,3,6,80] [.norm [2,3]] [Ym 76 6,Yf 77 29 2,Yl 78 2 77,Yn 79 78,Yb 80 .lss 76 79] (Yd 80 (Yy [2,3,6]) (.ghost (.keep [2,3]) (.exit 2)))) z4ka
def z8ma:z3a:=
 YR [4] [.norm [2,3]] [Yf 94 4 2,YL 95 8 2 94,Yf 96 4 3,YL 97 8 3 96,YK 98 149 95 97,Ym 4 98] .ret
def z8la:z3a:=
 Yq (Yr [2,3,6] [Yc 6 0] (.block 2 (.loop z9la))) z8ma
def z1ma:z3a:=
 Yq (Yr [2,3,5] [Yc 5 0] (.block 0 (.loop z6ka))) z8la
def z8za:z6e:=
 {n:=2,wr:=[],res:=[.t 4],body:=YR [2,3] [.norm [2,3]] [Yx 2 2 30 0,Yx 3 3 30 1,Yw 4 false] (Yq (YR [2,3,57] [.norm [2,3]] (z1na++z9ka++z4la++z6ma++z4ma++z3ka++z2na) (Yd 57 (Yr [4] [Yw 4 false] .ret) (Yy [2,3]))) z1ma)}
def z7v:z3a:=
 Yd 5 (.region [1,2] [.norm [1,2]] [Yf 14 6 1,YO (.store none 1 false (.s 14) (.c (st [])))]) (Yy [1,2])
def z6v:z3a:=
 YR [2] [.norm [1,2]] [YL 15 8 1 1,Ys 8 2 2 15] .ret
def z9h:z6e:=
 {n:=1,wr:=[],res:=[.cell 2 (some 8) 2],body:=YR [1,2] [.norm [1,2]] [Yx 1 1 8 0,Yo 2 (.alloc 2 (List.replicate 6 (i64 0)++[st []]++[.sl .plain none 0 []]))] (Yq (YR [1,2,4] [.norm [1,2]] [Yf 3 0 1,Yl 4 1 3] (.block 0 (Yq (Yr [1,2,4,5] [YB 6 .eql 4 2,Ym 5 6] (Yd 5 (Yy [1,2,5]) (Yr [1,2,4,5] [YB 7 .eql 4 4,Ym 5 7] (Yd 5 (Yy [1,2,5]) (Yr [1,2,4,5] [YB 8 .eql 4 5,Ym 5 8] (Yd 5 (Yy [1,2,5]) (Yr [1,2,4,5] [YB 9 .eql 4 6,Ym 5 9] (Yd 5 (Yy [1,2,5]) (Yr [1,2,4,5] [YB 10 .eql 4 8,Ym 5 10] (Yd 5 (Yy [1,2,5]) (Yr [1,2,4,5] [YB 11 .eql 4 10,Ym 5 11] (Yd 5 (Yy [1,2,5]) (Yr [1,2,4,5] [YB 12 .eql 4 15,Ym 5 12] (Yd 5 (Yy [1,2,5]) (Yu [1,2,5] [YB 13 .eql 4 19,Ym 5 13]))))))))))))))) z7v))) z6v)}
def z6H:List z2b:=
 [Yf 7 0 1,Yl 8 1 7,YB 9 .lss 8 0,Ym 10 9]
def z3G:List z2b:=
 [Yg 10 (Yf 11 0 1),Yg 10 (Yl 12 1 11),Yg 10 (YB 13 .gtr 12 1099511627776),YP 14 10 13,Ym 15 14]
def z3F:List z2b:=
 [Yg 15 (Yf 16 2 1),Yg 15 (Yl 17 1 16),Yg 15 (YB 18 .lss 17 0),YP 19 15 18,Ym 20 19]
def z9H:List z2b:=
 [Yg 20 (Yf 21 2 1),Yg 20 (Yl 22 1 21),Yg 20 (YB 23 .gtr 22 2147483647),YP 24 20 23,Ym 25 24]
def z2I:List z2b:=
 [Yg 25 (Yf 26 3 1),Yg 25 (Yl 27 1 26),Yg 25 (YB 28 .lss 27 1),YP 29 25 28,Ym 30 29]
def z0H:List z2b:=
 [Yg 30 (Yf 31 3 1),Yg 30 (Yl 32 1 31),Yg 30 (YB 33 .gtr 32 5),YP 34 30 33,Ym 35 34]
def z5F:List z2b:=
 [Yg 35 (Yf 36 28 1),Yg 35 (Yl 37 1 36),Yg 35 (Yn 38 37),Yg 35 (YB 39 .gtr 38 4096),YP 40 35 39,Ym 41 40]
def z6u:List z2b:=
 [Yg 41 (Yf 42 29 1),Yg 41 (Yl 43 1 42),Yg 41 (Yn 44 43),Yg 41 (YB 45 .gtr 44 4096),YP 46 41 45]
def z2H:List z2b:=
 [Yf 59 0 4,Yl 60 4 59,YB 61 .lss 60 1,Ym 62 61]
def z5I:List z2b:=
 [Yg 62 (Yf 63 0 4),Yg 62 (Yl 64 4 63),Yg 62 (YB 65 .gtr 64 2147483647),YP 66 62 65,Ym 67 66]
def z1E:List z2b:=
 [Yg 67 (Yf 68 5 4),Yg 67 (Yl 69 4 68),Yg 67 (YB 70 .lss 69 1),YP 71 67 70,Ym 72 71]
def z8E:List z2b:=
 [Yg 72 (Yf 73 5 4),Yg 72 (Yl 74 4 73),Yg 72 (YB 75 .gtr 74 2147483647),YP 76 72 75,Ym 77 76]
def z4E:List z2b:=
 [Yg 77 (Yf 78 6 4),Yg 77 (Yl 79 4 78),Yg 77 (YB 80 .lss 79 0),YP 81 77 80,Ym 82 81]
def z8D:List z2b:=
 [Yg 82 (Yf 83 6 4),Yg 82 (Yl 84 4 83),Yg 82 (YB 85 .gtr 84 2147483647),YP 86 82 85,Ym 87 86]
def z1D:List z2b:=
 [Yg 87 (Yf 88 1 4),Yg 87 (Yl 89 4 88),Yg 87 (YB 90 .lss 89 0),YP 91 87 90,Ym 92 91]
def z0E:List z2b:=
 [Yg 92 (Yf 93 1 4),Yg 92 (Yl 94 4 93),Yg 92 (YB 95 .gtr 94 31),YP 96 92 95,Ym 97 96]
def z9D:List z2b:=
 [Yg 97 (Yf 98 2 4),Yg 97 (Yl 99 4 98),Yg 97 (YB 100 .and 99 956),Yg 97 (Yf 101 2 4),Yg 97 (Yl 102 4 101),Yg 97 (Yb 103 .neq 100 102),YP 104 97 103,Ym 105 104]
def z6D:List z2b:=
 [Yg 105 (Yf 106 3 4),Yg 105 (Yl 107 4 106),Yg 105 (YB 108 .lss 107 0),YP 109 105 108,Ym 110 109]
def z0D:List z2b:=
 [Yg 110 (Yf 111 4 4),Yg 110 (Yl 112 4 111),Yg 110 (Yf 113 3 4),Yg 110 (Yl 114 4 113),Yg 110 (Yb 115 .lss 112 114),YP 116 110 115,Ym 117 116]
def z4t:List z2b:=
 [Yg 117 (Yf 118 4 4),Yg 117 (Yl 119 4 118),Yg 117 (YB 120 .gtr 119 1099511627776),YP 121 117 120]
def z1J:z3a:=
 Yq (.block 1 (YR [1,3,4] [.norm [1,4]] [Yf 54 28 1,Yl 55 1 54,Ym 56 3,Yi 57 24 55 56,YJ 58 24 57,Yo 4 (.alloc 4 (List.replicate 7 (i64 0)++[bo false]++bys (z9c 16))),Ys 24 4 4 58] (YR [1,3,121] [.norm [1,4]] (z2H++z5I++z1E++z8E++z4E++z8D++z1D++z0E++z9D++z6D++z0D++z4t) (Yd 121 (Yr [2] [Yw 2 false] .ret) (Yy [1,3]))))) (.region [1,3] [.drop [4]] [Ym 52 3,YB 53 .add 52 1,Ym 3 53])
def z1v:z3a:=
 Yq (YR [1,3,51] [.norm [1]] [Ym 47 3,Yf 48 28 1,Yl 49 1 48,Yn 50 49,Yb 51 .lss 47 50] (Yd 51 (Yy [1,3]) (YY [1]))) z1J
def z7D:List z2b:=
 [Yf 129 2 1,Yl 130 1 129,YB 131 .eql 130 0,Ym 132 131]
def z3E:List z2b:=
 [YG 132 (Ym 133 5),Yp 134 132 133,Ym 135 134]
def z7E:List z2b:=
 [YG 135 (Yf 136 12 1),YG 135 (YL 137 16 1 136),YG 135 (Yo 138 (.build (bys (z9c 16)) [])),YG 135 (Yo 139 (.eqF (ks8 16) false (.s 137) (.s 138))),Yp 140 135 139,Ym 141 140]
def z5E:List z2b:=
 [YG 141 (Yf 142 28 1),YG 141 (Yl 143 1 142),YG 141 (Yn 144 143),YG 141 (YB 145 .eql 144 0),Yp 146 141 145,Ym 147 146]
def z0t:List z2b:=
 [YG 147 (Yf 148 29 1),YG 147 (Yl 149 1 148),YG 147 (Yn 150 149),YG 147 (YB 151 .eql 150 0),Yp 152 147 151,Ym 2 152]
def z5D:List z2b:=
 [Yf 159 1 1,Yl 160 1 159,YB 161 .geq 160 1,Ym 162 161]
def z4D:List z2b:=
 [YG 162 (Yf 163 1 1),YG 162 (Yl 164 1 163),YG 162 (YB 165 .leq 164 27),Yp 166 162 165,Ym 167 166]
def z9E:List z2b:=
 [YG 167 (Yf 168 4 1),YG 167 (Yf 169 0 168),YG 167 (Yl 170 1 169),YG 167 (Yf 171 1 1),YG 167 (Yl 172 1 171),YG 167 (Yb 173 .eql 170 172),Yp 174 167 173,Ym 175 174]
def z2E:List z2b:=
 [YG 175 (Ym 176 6),Yp 177 175 176,Ym 2 177]
def z7H:z3a:=
 YR [1,6] [.norm [1,4]] [Yf 153 4 1,YL 154 8 1 153,Yf 155 4 1,YL 156 8 1 155,Yk 157 327 156,YK 158 149 154 157,Ym 6 158] (YR [2] [.norm [1,4]] (z5D++z4D++z9E++z2E) .ret)
def z5v:z3a:=
 Yq (YR [1,124] [.norm [1,4]] [Yf 122 1 1,Yl 123 1 122,YB 124 .eql 123 0] (Yd 124 (YR [1,5] [.norm [1,4]] [Yf 125 4 1,YL 126 8 1 125,Yo 127 (.build [i64 0,i64 0,i64 0,i64 0,i64 0,i64 0,st [],.sl .plain none 0 []] []),YK 128 149 126 127,Ym 5 128] (YR [2] [.norm [1,4]] (z7D++z3E++z7E++z5E++z0t) .ret)) (Yy [1]))) z7H
def z2G:z3a:=
 Yq (Yr [1,3] [Yc 3 0] (.block 0 (.loop z1v))) z5v
def z5k:z6e:=
 {n:=1,wr:=[],res:=[.t 2],body:=YR [1] [.norm [1]] [Yx 1 1 30 0,Yw 2 false] (Yq (YR [1,46] [.norm [1]] (z6H++z3G++z3F++z9H++z2I++z0H++z5F++z6u) (Yd 46 (Yr [2] [Yw 2 false] .ret) (Yy [1]))) z2G)}
def z9fa:z3a:=
 Yq (.block 1 (.region [1,3,4] [.norm [1]] [Ym 40 3,Yf 41 28 1,Yl 42 1 41,Ym 43 4,Yi 44 24 42 43,YJ 45 24 44,Yk 46 332 45,Yk 47 40 46,Yo 48 (.toStr none (.s 47)),Yb 49 .add 40 48,Yf 50 28 1,Yl 51 1 50,Ym 52 4,Yi 53 24 51 52,Yf 54 8 53,YJ 55 16 54,Yk 56 23 55,Yb 57 .add 49 56,Ym 3 57])) (Yu [1,3,4] [Ym 38 4,YB 39 .add 38 1,Ym 4 39])
def z8da:z3a:=
 Yq (YR [1,3,4,37] [.norm [1]] [Ym 33 4,Yf 34 28 1,Yl 35 1 34,Yn 36 35,Yb 37 .lss 33 36] (Yd 37 (Yy [1,3,4]) (YY [1,3]))) z9fa
def z5fa:z3a:=
 YR [2] [.norm [1]] [Ym 58 3,Yf 59 29 1,Yl 60 1 59,Yk 61 40 60,Yo 62 (.toStr none (.s 61)),Yb 63 .add 58 62,Ym 2 63] .ret
def z9na:z6e:=
 {n:=1,wr:=[],res:=[.t 2],body:=YR [1] [.norm [1]] [Yx 1 1 30 0,Yo 2 (.mv false (.c (st [])))] (YR [1,3] [.norm [1]] [Yf 5 0 1,Yl 6 1 5,Yf 7 1 1,Yl 8 1 7,Yf 9 2 1,Yl 10 1 9,Yf 11 3 1,Yl 12 1 11,Yo 13 (.buildSl 1 4 [i64 0,i64 0,i64 0,i64 0] [(0,1,.s 6),(1,1,.s 8),(2,1,.s 10),(3,1,.s 12)]),Yk 14 40 13,Yo 15 (.toStr none (.s 14)),Yf 16 4 1,YL 17 8 1 16,Yk 18 147 17,Yo 19 (.toStr none (.s 18)),Yk 20 29 19,Yo 21 (.toStr none (.s 20)),Yb 22 .add 15 21,Yf 23 12 1,YL 24 16 1 23,Yk 25 23 24,Yb 26 .add 22 25,Yf 27 28 1,Yl 28 1 27,Yn 29 28,Yk 30 30 29,Yo 31 (.toStr none (.s 30)),Yb 32 .add 26 31,Ym 3 32] (Yq (Yr [1,3,4] [Yc 4 0] (.block 0 (.loop z8da))) z5fa))}
def z2ra:z6e:=
 {n:=1,wr:=[],res:=[.cell 2 (some 16) 2],body:=YR [1,2] [.norm [1,2]] [Yx 1 1 30 0,Yz 2 2 16] (YR [2] [.norm [1,2]] [YL 3 30 1 1,Yk 4 333 3,Yo 5 (.buildSl 1 1 [st []] [(0,1,.s 4)]),Yo 6 (.call 20 [.c (i64 8),.s 5] []),Ys 16 2 2 6] .ret)}
def z68:z3a:=
 YR [2] [.norm [1]] [Yf 6 0 1,Yl 7 1 6,Yf 8 1 1,Yl 9 1 8,Yf 10 2 1,Yl 11 1 10,Yf 12 3 1,Yl 13 1 12,Yf 14 4 1,Yl 15 1 14,Yf 16 5 1,Yl 17 1 16,Yf 18 6 1,Yl 19 1 18,Ym 20 3,Yo 21 (.buildSl 1 8 [i64 0,i64 0,i64 0,i64 0,i64 0,i64 0,i64 0,i64 0] [(0,1,.s 7),(1,1,.s 9),(2,1,.s 11),(3,1,.s 13),(4,1,.s 15),(5,1,.s 17),(6,1,.s 19),(7,1,.s 20)]),YM 2 21] .ret
def z7ma:z6e:=
 {n:=1,wr:=[],res:=[.t 2],body:=YR [1] [.norm [1]] [Yx 1 1 24 0,Yo 2 (.mv true (.c (.sl (.own 1) none 0 [])))] (Yr [1,3] [Yc 3 0] (Yq (YR [1,3,5] [.norm [1]] [Yf 4 7 1,Yl 5 1 4] (Yd 5 (Yu [1,3] [Yc 3 1]) (Yy [1,3]))) z68))}
end Go.Abs
end

section
namespace Go.Abs
set_option maxRecDepth 100000
set_option maxHeartbeats 8000000 in
theorem z2Pc (E:Env):∀ds,z2Db.pre ds→ds.length=z9h.n∧awp E z9h.body (z0m z9h.res (z2Db.post ds)) (z3b z9h.wr ds):=by
 rintro _ ⟨c,nl,hc,rfl⟩
 rw[z6tb]
 obtain⟨k1,k2,k3,k4,k5,k6,dt,ls⟩:=c
 by_cases hs:z9Vb k1=true
 ·have hk:z9Hb ⟨k1,k2,k3,k4,k5,k6,dt,ls⟩=⟨k1,k2,k3,k4,k5,k6,[],ls⟩:=by simp[z9Hb,hs]
  rw[hk]
  simp only[z9Vb,List.mem_cons,List.not_mem_nil,or_false,decide_eq_true_eq] at hs
  rcases hs with rfl|rfl|rfl|rfl|rfl|rfl|rfl|rfl<;>simp(maxSteps:=1000000) (disch:=first|omega|(simp;done)|(simp;omega)) [z9a,z1a,z0a,z9h,z7v,z6v,z0W,kT,kF,z7F,z1I]
 ·have hk:z9Hb ⟨k1,k2,k3,k4,k5,k6,dt,ls⟩=⟨k1,k2,k3,k4,k5,k6,dt,ls⟩:=by simp[z9Hb,hs]
  rw[hk]
  simp only[z9Vb,List.mem_cons,List.not_mem_nil,or_false,decide_eq_true_eq,not_or] at hs
  obtain⟨n1,n2,n3,n4,n5,n6,n7,n8⟩:=hs
  simp(maxSteps:=1000000) (disch:=first|omega|(simp;done)|(simp;omega)) [z9a,z1a,z0a,z9h,z7v,z6v,z0W,kT,kF,n1,n2,n3,n4,n5,n6,n7,n8,z7F,z1I]
end Go.Abs
end

section
namespace Go.Abs
theorem z0Zb (v:BitVec 64):IntKind.i64.wrap (v.toNat:Int)=v.toInt:=by
 have h:=v.isLt
 rw[BitVec.toInt_eq_toNat_cond]
 show(let m:=(v.toNat:Int)% 2^64;if true&&decide (2^(64-1)≤m) then m-2^64 else m)=_
 simp only[Bool.true_and,decide_eq_true_eq,show(2:Int)^(64-1)=9223372036854775808 from rfl,show(2:Int)^64=18446744073709551616 from rfl,show(2:Nat)^64=18446744073709551616 from rfl]
 have h:v.toNat<18446744073709551616:=h
 split<;>split<;>omega
theorem z6rb {n:Int} (h:z1n n):(BitVec.ofInt 64 n).toInt=n:=by
 obtain⟨h1,h2⟩:=h
 rw[BitVec.toInt_ofInt]
 rw[Int.bmod_def]
 split<;>omega
theorem z8Ld (x c:BitVec 64):x&&& ~~~c=0#64↔x&&&c=x:=by
 constructor
 ·intro h
  apply BitVec.eq_of_getLsbD_eq
  intro i hi
  have:=congrArg (fun v=>v.getLsbD i) h
  simp[hi] at this⊢
  exact this
 ·intro h
  apply BitVec.eq_of_getLsbD_eq
  intro i hi
  have:=congrArg (fun v=>v.getLsbD i) h
  simp[hi] at this⊢
  exact this
theorem z44b {n:Int} (h:z1n n):z0Ya n=(z8Hc n 956==n):=by
 have e1:z9db n 956=(BitVec.ofInt 64 n&&& ~~~BitVec.ofInt 64 956).toInt:=z0Zb _
 have e2:z8Hc n 956=(BitVec.ofInt 64 n&&&BitVec.ofInt 64 956).toInt:=z0Zb _
 rw[Bool.eq_iff_iff,z0Ya,beq_iff_eq,beq_iff_eq,e1,e2]
 have z:(0:Int)=(0#64:BitVec 64).toInt:=by decide
 rw[z,BitVec.toInt_inj,z8Ld]
 constructor
 ·intro e;rw[e,z6rb h]
 ·intro e
  have:=(BitVec.toInt_inj (x:=BitVec.ofInt 64 n&&&BitVec.ofInt 64 956) (y:=BitVec.ofInt 64 n)).1 (by rw[e,z6rb h])
  exact this
end Go.Abs
end

section
namespace Go.Abs
set_option maxRecDepth 100000
theorem z3rc {m:z2q} (h:z1n m.uses):z3ta m=true↔1≤m.id∧m.id≤2147483647∧1≤m.ver∧m.ver≤2147483647∧0≤m.par∧m.par≤2147483647∧0≤m.ty∧m.ty≤31∧z8Hc m.uses 956=m.uses∧0≤m.beg∧m.beg≤m.fin∧0≤m.fin∧m.fin≤1099511627776:=by
 simp only[z3ta,z78,z44b h,Bool.and_eq_true,beq_iff_eq]
 simp only[z3sb,z5Ab,and_assoc]
theorem z5Jd {p:z2q→Bool} {l:List z2q} {i:Nat} (h:i<l.length) (hp:p (atD l i)=false):l.all p=false:=by
 cases ha:l.all p with
 |false=>rfl
 |true=>
  have:=List.all_eq_true.1 ha _ (z3yb h)
  rw[hp] at this
  cases this
theorem z5Rc {p:z2q→Bool} {l:List z2q} (h:∀j<l.length,p (atD l j)=true):l.all p=true:=by
 rw[List.all_eq_true]
 intro x hx
 obtain⟨i,hi,rfl⟩:=List.mem_iff_getElem.1 hx
 rw[←z0ab hi]
 exact h i hi
theorem z7ic (c:Cmd):z8Ua c (z9Hb c)=(!z9Vb c.kind||decide (c.data=[])):=by
 unfold z9Hb
 cases hs:z9Vb c.kind
 ·simp[z8Ua]
 ·obtain⟨k1,k2,k3,k4,k5,k6,dt,ls⟩:=c
  simp[z8Ua]
  cases dt<;>rfl
set_option maxHeartbeats 16000000 in
theorem z4dd (E:Env) (h149:E.G 149=z8aa) (h327:E.G 327=z2Db):∀ds,z8ub.pre ds→ds.length=z5k.n∧awp E z5k.body (z0m z5k.res (z8ub.post ds)) (z3b z5k.wr ds):=by
 rintro _ ⟨nc,nm,ng,x,hx,rfl⟩
 rw[z0Sa hx]
 have h16:=hx.1.2.2.2.2.2.2.1
 have hd:=hx.1.2.2.2.2.2.1
 have hml:=hx.2.2.1
 have hgl:=hx.2.2.2
 have hl:=z4V (nc:=nc) (nm:=nm) (ng:=ng) hd
 have e28:=z55a (nc:=nc) (nm:=nm) (ng:=ng) hd
 have e29:=z76a (nc:=nc) (nm:=nm) (ng:=ng) hd
 have hg:=z9gb (nc:=nc) (nm:=nm) (ng:=ng) hd
 have hlen:=z1aa (z4s h16)
 obtain⟨Z,hZ⟩:∃Z,Z=okE x:=⟨_,rfl⟩
 rw[←hZ]
 have hzl:¬(0≤x.time∧x.time≤1099511627776∧0≤x.req∧x.req≤2147483647∧1≤x.mode∧x.mode≤5∧x.made.length≤4096∧x.gone.length≤4096)→Z=false:=fun h=>by
  cases hc:okE x
  ·rw[hZ,hc]
  ·exact absurd (z0Ha hc) h
 refine⟨rfl,?_⟩
 simp only[z5k]
 refine z4a fun Q9 hQ9=> ?_
 refine z4W fun B hB=> ?_
 simp(maxSteps:=1000000) (disch:=first|omega|(simp;done)|(simp;omega)) [z9a,z1a,z0a,hl]
 rw[hB];clear hB
 rw[z6n]
 refine z4a fun Q1 hQ1=> ?_
 rw[z6n]
 refine z4a fun Q2 hQ2=> ?_
 rw[z8z]
 refine z1d fun T hT=> ?_
 simp(maxSteps:=1000000) (disch:=first|omega|(simp;done)|(simp;omega)) [z9a,z1a,z0a,z6H,hl,e28,e29]
 by_cases b1:x.time<0
 ·refine z5c true 10 46 (by simp[b1]) (by rw[hT];kernel_rfl) (by rw[hT];kernel_rfl) ?_
  have hz:Z=false:=hzl (by omega)
  simp(maxSteps:=1000000) (disch:=first|omega|(simp;done)|(simp;omega)) [z9a,z1a,z0a,hQ2,hQ1,hQ9,kT,hz]
 rw[hT];clear hT
 refine z1d fun T hT=> ?_
 simp(maxSteps:=1000000) (disch:=first|omega|(simp;done)|(simp;omega)) [z9a,z1a,z0a,z3G,hl,e28,e29,b1]
 by_cases b2:1099511627776<x.time
 ·refine z5c true 15 46 (by simp[b2]) (by rw[hT];kernel_rfl) (by rw[hT];kernel_rfl) ?_
  have hz:Z=false:=hzl (by omega)
  simp(maxSteps:=1000000) (disch:=first|omega|(simp;done)|(simp;omega)) [z9a,z1a,z0a,hQ2,hQ1,hQ9,kT,hz]
 rw[hT];clear hT
 refine z1d fun T hT=> ?_
 simp(maxSteps:=1000000) (disch:=first|omega|(simp;done)|(simp;omega)) [z9a,z1a,z0a,z3F,hl,e28,e29,b1,b2]
 by_cases b3:x.req<0
 ·refine z5c true 20 46 (by simp[b3]) (by rw[hT];kernel_rfl) (by rw[hT];kernel_rfl) ?_
  have hz:Z=false:=hzl (by omega)
  simp(maxSteps:=1000000) (disch:=first|omega|(simp;done)|(simp;omega)) [z9a,z1a,z0a,hQ2,hQ1,hQ9,kT,hz]
 rw[hT];clear hT
 refine z1d fun T hT=> ?_
 simp(maxSteps:=1000000) (disch:=first|omega|(simp;done)|(simp;omega)) [z9a,z1a,z0a,z9H,hl,e28,e29,b1,b2,b3]
 by_cases b4:2147483647<x.req
 ·refine z5c true 25 46 (by simp[b4]) (by rw[hT];kernel_rfl) (by rw[hT];kernel_rfl) ?_
  have hz:Z=false:=hzl (by omega)
  simp(maxSteps:=1000000) (disch:=first|omega|(simp;done)|(simp;omega)) [z9a,z1a,z0a,hQ2,hQ1,hQ9,kT,hz]
 rw[hT];clear hT
 refine z1d fun T hT=> ?_
 simp(maxSteps:=1000000) (disch:=first|omega|(simp;done)|(simp;omega)) [z9a,z1a,z0a,z2I,hl,e28,e29,b1,b2,b3,b4]
 by_cases b5:x.mode<1
 ·refine z5c true 30 46 (by simp[b5]) (by rw[hT];kernel_rfl) (by rw[hT];kernel_rfl) ?_
  have hz:Z=false:=hzl (by omega)
  simp(maxSteps:=1000000) (disch:=first|omega|(simp;done)|(simp;omega)) [z9a,z1a,z0a,hQ2,hQ1,hQ9,kT,hz]
 rw[hT];clear hT
 refine z1d fun T hT=> ?_
 simp(maxSteps:=1000000) (disch:=first|omega|(simp;done)|(simp;omega)) [z9a,z1a,z0a,z0H,hl,e28,e29,b1,b2,b3,b4,b5]
 by_cases b6:5<x.mode
 ·refine z5c true 35 46 (by simp[b6]) (by rw[hT];kernel_rfl) (by rw[hT];kernel_rfl) ?_
  have hz:Z=false:=hzl (by omega)
  simp(maxSteps:=1000000) (disch:=first|omega|(simp;done)|(simp;omega)) [z9a,z1a,z0a,hQ2,hQ1,hQ9,kT,hz]
 rw[hT];clear hT
 refine z1d fun T hT=> ?_
 simp(maxSteps:=1000000) (disch:=first|omega|(simp;done)|(simp;omega)) [z9a,z1a,z0a,z5F,hl,e28,e29,b1,b2,b3,b4,b5,b6]
 by_cases b7:4096<(x.made.length:Int)
 ·refine z5c true 41 46 (by simp[b7]) (by rw[hT];kernel_rfl) (by rw[hT];kernel_rfl) ?_
  have hz:Z=false:=hzl (by omega)
  simp(maxSteps:=1000000) (disch:=first|omega|(simp;done)|(simp;omega)) [z9a,z1a,z0a,hQ2,hQ1,hQ9,kT,hz]
 rw[hT];clear hT
 by_cases b8:4096<(x.gone.length:Int)
 ·have hz:Z=false:=hzl (by omega)
  simp(maxSteps:=1000000) (disch:=first|omega|(simp;done)|(simp;omega)) [z9a,z1a,z0a,hQ2,hQ1,hQ9,kT,hz,z6u,hl,e28,e29,b1,b2,b3,b4,b5,b6,b7,b8]
 simp(maxSteps:=1000000) (disch:=first|omega|(simp;done)|(simp;omega)) [z9a,z1a,z0a,z6u,hl,e28,e29,b1,b2,b3,b4,b5,b6,b7,b8,hQ2,hQ1,kF]
 simp(maxSteps:=1000000) (disch:=first|omega|(simp;done)|(simp;omega)) [z9a,z1a,z0a,z2G]
 refine z4a fun Q3 hQ3=> ?_
 refine z4e (fun i:Nat=>⟨[(0,.agg (z8j nc nm ng x))],[(1,.bp 1 0),(3,i64 i)],[(1,some (z8j nc nm ng x))]⟩)
  (fun i=>x.made.length-i) (fun i=>i≤x.made.length∧∀j<i,z3ta (atD x.made j)=true) 0 (by simp) (by simp) fun i hi=> ?_
 obtain⟨hi,he⟩:=hi
 refine z4a fun Q4 hQ4=> ?_
 by_cases h1:i<x.made.length
 ·have hm:=h16 _ (z3yb h1)
  have hmd:=hm.2.2.2.2.2.2.2
  have ha:=z9Ic h16 h1
  have hmll:=z0A hmd
  have hle:24≤x.made.length*24-i*24:=by omega
  have hle2:i*24≤x.made.length*24:=by omega
  have hno:z3ta (atD x.made i)=false→Z=false:=fun h=>by
   have:=z5Jd (p:=z3ta) h1 h
   rw[hZ]
   simp only[okE,this]
   simp
  have hst:∀j<i+1,j<i∨j=i:=fun j hj=>by omega
  obtain⟨m,hX⟩:∃m,m=atD x.made i:=⟨_,rfl⟩
  rw[←hX] at hm hmd ha hmll hno
  have sp:splice (i64 0::i64 0::i64 0::i64 0::i64 0::i64 0::i64 0::bo false::bys (z9c 16)) 0 (z6B m)=z6B m:=z7fc hmd rfl
  have hiff:=z3rc hm.2.2.1
  have hno2:¬(1≤m.id∧m.id≤2147483647∧1≤m.ver∧m.ver≤2147483647∧0≤m.par∧m.par≤2147483647∧0≤m.ty∧m.ty≤31∧z8Hc m.uses 956=m.uses∧0≤m.beg∧m.beg≤m.fin∧0≤m.fin∧m.fin≤1099511627776)→Z=false:=fun h=>hno (by
   cases hc:z3ta m
   ·rfl
   ·exact absurd (hiff.1 hc) h)
  simp(maxSteps:=1000000) (disch:=first|omega|(simp;done)|(simp;omega)) [z9a,z1a,z0a,z1v,kT,kF,dT,dF,h1,e28,hl]
  simp only[z1J]
  rw[z6n]
  refine z4a fun Q5 hQ5=> ?_
  rw[z3cd]
  refine z4a fun Q6 hQ6=> ?_
  refine z4W fun B hB=> ?_
  simp(maxSteps:=1000000) (disch:=first|omega|(simp;done)|(simp;omega)) [z9a,z1a,z0a,e28,hl,hlen,hle,hle2,ha,sp,hmll,z8Qa,z3bb,h1]
  rw[hB];clear hB
  rw[z6n]
  refine z4a fun Q7 hQ7=> ?_
  rw[z8z]
  refine z1d fun T hT=> ?_
  simp(maxSteps:=1000000) (disch:=first|omega|(simp;done)|(simp;omega)) [z9a,z1a,z0a,z2H,hmll]
  by_cases c1:m.id<1
  ·refine z5c true 62 121 (by simp[c1]) (by rw[hT];kernel_rfl) (by rw[hT];kernel_rfl) ?_
   have hz:Z=false:=hno2 (by omega)
   simp(maxSteps:=1000000) (disch:=first|omega|(simp;done)|(simp;omega)) [z9a,z1a,z0a,hQ7,hQ6,hQ5,hQ4,hQ3,hQ9,kT,hz]
  rw[hT];clear hT
  refine z1d fun T hT=> ?_
  simp(maxSteps:=1000000) (disch:=first|omega|(simp;done)|(simp;omega)) [z9a,z1a,z0a,z5I,hmll,c1]
  by_cases c2:2147483647<m.id
  ·refine z5c true 67 121 (by simp[c2]) (by rw[hT];kernel_rfl) (by rw[hT];kernel_rfl) ?_
   have hz:Z=false:=hno2 (by omega)
   simp(maxSteps:=1000000) (disch:=first|omega|(simp;done)|(simp;omega)) [z9a,z1a,z0a,hQ7,hQ6,hQ5,hQ4,hQ3,hQ9,kT,hz]
  rw[hT];clear hT
  refine z1d fun T hT=> ?_
  simp(maxSteps:=1000000) (disch:=first|omega|(simp;done)|(simp;omega)) [z9a,z1a,z0a,z1E,hmll,c1,c2]
  by_cases c3:m.ver<1
  ·refine z5c true 72 121 (by simp[c3]) (by rw[hT];kernel_rfl) (by rw[hT];kernel_rfl) ?_
   have hz:Z=false:=hno2 (by omega)
   simp(maxSteps:=1000000) (disch:=first|omega|(simp;done)|(simp;omega)) [z9a,z1a,z0a,hQ7,hQ6,hQ5,hQ4,hQ3,hQ9,kT,hz]
  rw[hT];clear hT
  refine z1d fun T hT=> ?_
  simp(maxSteps:=1000000) (disch:=first|omega|(simp;done)|(simp;omega)) [z9a,z1a,z0a,z8E,hmll,c1,c2,c3]
  by_cases c4:2147483647<m.ver
  ·refine z5c true 77 121 (by simp[c4]) (by rw[hT];kernel_rfl) (by rw[hT];kernel_rfl) ?_
   have hz:Z=false:=hno2 (by omega)
   simp(maxSteps:=1000000) (disch:=first|omega|(simp;done)|(simp;omega)) [z9a,z1a,z0a,hQ7,hQ6,hQ5,hQ4,hQ3,hQ9,kT,hz]
  rw[hT];clear hT
  refine z1d fun T hT=> ?_
  simp(maxSteps:=1000000) (disch:=first|omega|(simp;done)|(simp;omega)) [z9a,z1a,z0a,z4E,hmll,c1,c2,c3,c4]
  by_cases c5:m.par<0
  ·refine z5c true 82 121 (by simp[c5]) (by rw[hT];kernel_rfl) (by rw[hT];kernel_rfl) ?_
   have hz:Z=false:=hno2 (by omega)
   simp(maxSteps:=1000000) (disch:=first|omega|(simp;done)|(simp;omega)) [z9a,z1a,z0a,hQ7,hQ6,hQ5,hQ4,hQ3,hQ9,kT,hz]
  rw[hT];clear hT
  refine z1d fun T hT=> ?_
  simp(maxSteps:=1000000) (disch:=first|omega|(simp;done)|(simp;omega)) [z9a,z1a,z0a,z8D,hmll,c1,c2,c3,c4,c5]
  by_cases c6:2147483647<m.par
  ·refine z5c true 87 121 (by simp[c6]) (by rw[hT];kernel_rfl) (by rw[hT];kernel_rfl) ?_
   have hz:Z=false:=hno2 (by omega)
   simp(maxSteps:=1000000) (disch:=first|omega|(simp;done)|(simp;omega)) [z9a,z1a,z0a,hQ7,hQ6,hQ5,hQ4,hQ3,hQ9,kT,hz]
  rw[hT];clear hT
  refine z1d fun T hT=> ?_
  simp(maxSteps:=1000000) (disch:=first|omega|(simp;done)|(simp;omega)) [z9a,z1a,z0a,z1D,hmll,c1,c2,c3,c4,c5,c6]
  by_cases c7:m.ty<0
  ·refine z5c true 92 121 (by simp[c7]) (by rw[hT];kernel_rfl) (by rw[hT];kernel_rfl) ?_
   have hz:Z=false:=hno2 (by omega)
   simp(maxSteps:=1000000) (disch:=first|omega|(simp;done)|(simp;omega)) [z9a,z1a,z0a,hQ7,hQ6,hQ5,hQ4,hQ3,hQ9,kT,hz]
  rw[hT];clear hT
  refine z1d fun T hT=> ?_
  simp(maxSteps:=1000000) (disch:=first|omega|(simp;done)|(simp;omega)) [z9a,z1a,z0a,z0E,hmll,c1,c2,c3,c4,c5,c6,c7]
  by_cases c8:31<m.ty
  ·refine z5c true 97 121 (by simp[c8]) (by rw[hT];kernel_rfl) (by rw[hT];kernel_rfl) ?_
   have hz:Z=false:=hno2 (by omega)
   simp(maxSteps:=1000000) (disch:=first|omega|(simp;done)|(simp;omega)) [z9a,z1a,z0a,hQ7,hQ6,hQ5,hQ4,hQ3,hQ9,kT,hz]
  rw[hT];clear hT
  refine z1d fun T hT=> ?_
  simp(maxSteps:=1000000) (disch:=first|omega|(simp;done)|(simp;omega)) [z9a,z1a,z0a,z9D,hmll,c1,c2,c3,c4,c5,c6,c7,c8]
  by_cases c9:z8Hc m.uses 956=m.uses
  rotate_left
  ·refine z5c true 105 121 (by simp[c9]) (by rw[hT];kernel_rfl) (by rw[hT];kernel_rfl) ?_
   have hz:Z=false:=hno2 (by omega)
   simp(maxSteps:=1000000) (disch:=first|omega|(simp;done)|(simp;omega)) [z9a,z1a,z0a,hQ7,hQ6,hQ5,hQ4,hQ3,hQ9,kT,hz]
  rw[hT];clear hT
  refine z1d fun T hT=> ?_
  simp(maxSteps:=1000000) (disch:=first|omega|(simp;done)|(simp;omega)) [z9a,z1a,z0a,z6D,hmll,c1,c2,c3,c4,c5,c6,c7,c8,c9]
  by_cases c10:m.beg<0
  ·refine z5c true 110 121 (by simp[c10]) (by rw[hT];kernel_rfl) (by rw[hT];kernel_rfl) ?_
   have hz:Z=false:=hno2 (by omega)
   simp(maxSteps:=1000000) (disch:=first|omega|(simp;done)|(simp;omega)) [z9a,z1a,z0a,hQ7,hQ6,hQ5,hQ4,hQ3,hQ9,kT,hz]
  rw[hT];clear hT
  refine z1d fun T hT=> ?_
  simp(maxSteps:=1000000) (disch:=first|omega|(simp;done)|(simp;omega)) [z9a,z1a,z0a,z0D,hmll,c1,c2,c3,c4,c5,c6,c7,c8,c9,c10]
  by_cases c11:m.fin<m.beg
  ·refine z5c true 117 121 (by simp[c11]) (by rw[hT];kernel_rfl) (by rw[hT];kernel_rfl) ?_
   have hz:Z=false:=hno2 (by omega)
   simp(maxSteps:=1000000) (disch:=first|omega|(simp;done)|(simp;omega)) [z9a,z1a,z0a,hQ7,hQ6,hQ5,hQ4,hQ3,hQ9,kT,hz]
  rw[hT];clear hT
  by_cases c12:1099511627776<m.fin
  ·have hz:Z=false:=hno2 (by omega)
   simp(maxSteps:=1000000) (disch:=first|omega|(simp;done)|(simp;omega)) [z9a,z1a,z0a,hQ7,hQ6,hQ5,hQ4,hQ3,hQ9,kT,hz,z4t,hmll,c1,c2,c3,c4,c5,c6,c7,c8,c9,c10,c11,c12]
  simp(maxSteps:=1000000) (disch:=first|omega|(simp;done)|(simp;omega)) [z9a,z1a,z0a,z4t,hmll,c1,c2,c3,c4,c5,c6,c7,c8,c9,c10,c11,c12,hQ7,hQ6,hQ5,hQ4,kF]
  have hyes:z3ta m=true:=hiff.2 (by omega)
  refine⟨i+1,by omega,⟨by omega,fun j hj=> ?_⟩,by omega⟩
  rcases hst j hj with h|h
  ·exact he j h
  ·rw[h,←hX];exact hyes
 ·obtain rfl:i=x.made.length:=by omega
  have hall:=z5Rc he
  have hzz:Z=if x.kind=0 then z48 x (z0mb x.time x.mode) else inR x.kind 1 27&&(x.cmd.kind==x.kind)&&(!z9Vb x.kind||decide (x.cmd.data=[])):=by
   have q1:inR x.time 0 z5Ab=true:=(z78 _ _ _).2 (by simp only[z5Ab];omega)
   have q2:inR x.req 0 z3sb=true:=(z78 _ _ _).2 (by simp only[z3sb];omega)
   have q3:inR x.mode 1 5=true:=(z78 _ _ _).2 (by omega)
   have q4:decide (x.made.length≤4096)=true:=by simp only[decide_eq_true_eq];omega
   have q5:decide (x.gone.length≤4096)=true:=by simp only[decide_eq_true_eq];omega
   simp only[hZ,okE,q1,q2,q3,q4,q5,hall,Bool.true_and]
  simp(maxSteps:=1000000) (disch:=first|omega|(simp;done)|(simp;omega)) [z9a,z1a,z0a,z1v,kF,kT,dT,dF,hQ4,hQ3,e28,hl]
  have hzp:=z6Za (nl:=nc) (nl':=none) hx.2.1 z4ha
  have hzq:=z9ea x.cmd z4S nc none
  rw[show z0W z4S none=[i64 0,i64 0,i64 0,i64 0,i64 0,i64 0,st [],.sl .plain none 0 []] from rfl] at hzp hzq
  by_cases hk:x.kind=0
  ·rw[if_pos hk] at hzz
   have eqz:z2J (ks8 16) (bys x.dig) (bys (z9c 16))=decide (x.dig=z4Dd):=z6ia hd rfl
   simp only[z5v]
   rw[z6n]
   refine z4a fun Q1 hQ1=> ?_
   refine z4W fun B hB=> ?_
   simp(maxSteps:=1000000) (disch:=first|omega|(simp;done)|(simp;omega)) [z9a,z1a,z0a,hl,hk]
   rw[hB];clear hB
   rw[z6d]
   refine⟨by simp,fun _=> ?_,fun h=>by simp at h⟩
   refine z4W fun B hB=> ?_
   simp(maxSteps:=1000000) (disch:=first|omega|(simp;done)|(simp;omega)) [z9a,z1a,z0a,hl,h149,hzp,hzq]
   rw[hB];clear hB
   rw[z6n]
   refine z4a fun Q2 hQ2=> ?_
   rw[z8z]
   refine z1d fun T hT=> ?_
   simp(maxSteps:=1000000) (disch:=first|omega|(simp;done)|(simp;omega)) [z9a,z1a,z0a,z7D,hl,e28,e29,hg,eqz,hd]
   by_cases d1:x.req=0
   rotate_left
   ·refine z5c false 132 2 (by simp[d1]) (by rw[hT];kernel_rfl) (by rw[hT];kernel_rfl) ?_
    have hz:Z=false:=by rw[hzz];simp[z48,z0mb,d1]
    simp(maxSteps:=1000000) (disch:=first|omega|(simp;done)|(simp;omega)) [z9a,z1a,z0a,hQ2,hQ1,hQ9,hz]
   rw[hT];clear hT
   refine z1d fun T hT=> ?_
   simp(maxSteps:=1000000) (disch:=first|omega|(simp;done)|(simp;omega)) [z9a,z1a,z0a,z3E,hl,e28,e29,hg,eqz,hd,d1]
   by_cases d2:z8Ua x.cmd z4S=true
   rotate_left
   ·refine z5c false 135 2 (by simp[d2]) (by rw[hT];kernel_rfl) (by rw[hT];kernel_rfl) ?_
    have hz:Z=false:=by rw[hzz];simp[z48,z0mb,d2]
    simp(maxSteps:=1000000) (disch:=first|omega|(simp;done)|(simp;omega)) [z9a,z1a,z0a,hQ2,hQ1,hQ9,hz]
   rw[hT];clear hT
   refine z1d fun T hT=> ?_
   simp(maxSteps:=1000000) (disch:=first|omega|(simp;done)|(simp;omega)) [z9a,z1a,z0a,z7E,hl,e28,e29,hg,eqz,hd,d1,d2]
   by_cases d3:x.dig=z4Dd
   rotate_left
   ·refine z5c false 141 2 (by simp[d3]) (by rw[hT];kernel_rfl) (by rw[hT];kernel_rfl) ?_
    have hz:Z=false:=by rw[hzz];simp[z48,z0mb,d3]
    simp(maxSteps:=1000000) (disch:=first|omega|(simp;done)|(simp;omega)) [z9a,z1a,z0a,hQ2,hQ1,hQ9,hz]
   rw[hT];clear hT
   refine z1d fun T hT=> ?_
   simp(maxSteps:=1000000) (disch:=first|omega|(simp;done)|(simp;omega)) [z9a,z1a,z0a,z5E,hl,e28,e29,hg,eqz,hd,d1,d2,d3]
   by_cases d4:x.made=[]
   rotate_left
   ·refine z5c false 147 2 (by simp[d4]) (by rw[hT];kernel_rfl) (by rw[hT];kernel_rfl) ?_
    have hz:Z=false:=by rw[hzz];simp[z48,z0mb,d4]
    simp(maxSteps:=1000000) (disch:=first|omega|(simp;done)|(simp;omega)) [z9a,z1a,z0a,hQ2,hQ1,hQ9,hz]
   rw[hT];clear hT
   by_cases d5:x.gone=[]
   rotate_left
   ·have hz:Z=false:=by rw[hzz];simp[z48,z0mb,d5]
    simp(maxSteps:=1000000) (disch:=first|omega|(simp;done)|(simp;omega)) [z9a,z1a,z0a,hQ2,hQ1,hQ9,hz,z0t,hl,e28,e29,hg,eqz,hd,d1,d2,d3,d4,d5]
   have hz:Z=true:=by rw[hzz];simp[z48,z0mb,d1,d2,d3,d4,d5,hk]
   simp(maxSteps:=1000000) (disch:=first|omega|(simp;done)|(simp;omega)) [z9a,z1a,z0a,z0t,hl,e28,e29,hg,eqz,hd,d1,d2,d3,d4,d5,hQ2,hQ1,hQ9,hz]
  ·rw[if_neg hk] at hzz
   have hp2:=z0sc (nl:=nc) hx.2.1
   have hq2:=z6tb x.cmd nc
   have hp3:=z6Za (nl:=nc) (nl':=nc) hx.2.1 (z3Qb hx.2.1)
   have hq3:=z9ea x.cmd (z9Hb x.cmd) nc nc
   simp only[z5v]
   rw[z6n]
   refine z4a fun Q1 hQ1=> ?_
   refine z4W fun B hB=> ?_
   simp(maxSteps:=1000000) (disch:=first|omega|(simp;done)|(simp;omega)) [z9a,z1a,z0a,hl,hk]
   rw[hB];clear hB
   rw[z6d]
   refine⟨by simp[hk],fun h=>by simp[hk] at h,fun _=> ?_⟩
   simp(maxSteps:=1000000) (disch:=first|omega|(simp;done)|(simp;omega)) [z9a,z1a,z0a,hQ1]
   simp only[z7H]
   refine z4W fun B hB=> ?_
   simp(maxSteps:=1000000) (disch:=first|omega|(simp;done)|(simp;omega)) [z9a,z1a,z0a,hl,h149,h327,hp2,hq2,hp3,hq3]
   rw[hB];clear hB
   rw[z6n]
   refine z4a fun Q2 hQ2=> ?_
   rw[z8z]
   refine z1d fun T hT=> ?_
   simp(maxSteps:=1000000) (disch:=first|omega|(simp;done)|(simp;omega)) [z9a,z1a,z0a,z5D,hl]
   by_cases d1:1≤x.kind
   rotate_left
   ·refine z5c false 162 2 (by simp[d1]) (by rw[hT];kernel_rfl) (by rw[hT];kernel_rfl) ?_
    have hz:Z=false:=by rw[hzz];simp[inR,d1]
    simp(maxSteps:=1000000) (disch:=first|omega|(simp;done)|(simp;omega)) [z9a,z1a,z0a,hQ2,hQ9,hz]
   rw[hT];clear hT
   refine z1d fun T hT=> ?_
   simp(maxSteps:=1000000) (disch:=first|omega|(simp;done)|(simp;omega)) [z9a,z1a,z0a,z4D,hl,d1]
   by_cases d2:x.kind≤27
   rotate_left
   ·refine z5c false 167 2 (by simp[d2]) (by rw[hT];kernel_rfl) (by rw[hT];kernel_rfl) ?_
    have hz:Z=false:=by rw[hzz];simp[inR,d2]
    simp(maxSteps:=1000000) (disch:=first|omega|(simp;done)|(simp;omega)) [z9a,z1a,z0a,hQ2,hQ9,hz]
   rw[hT];clear hT
   refine z1d fun T hT=> ?_
   simp(maxSteps:=1000000) (disch:=first|omega|(simp;done)|(simp;omega)) [z9a,z1a,z0a,z9E,hl,d1,d2]
   by_cases d3:x.cmd.kind=x.kind
   rotate_left
   ·refine z5c false 175 2 (by simp[d3]) (by rw[hT];kernel_rfl) (by rw[hT];kernel_rfl) ?_
    have hz:Z=false:=by rw[hzz];simp[inR,d3]
    simp(maxSteps:=1000000) (disch:=first|omega|(simp;done)|(simp;omega)) [z9a,z1a,z0a,hQ2,hQ9,hz]
   rw[hT];clear hT
   have hz:Z=z8Ua x.cmd (z9Hb x.cmd):=by rw[hzz,z7ic,d3];simp[inR,d1,d2]
   simp(maxSteps:=1000000) (disch:=first|omega|(simp;done)|(simp;omega)) [z9a,z1a,z0a,z2E,hl,d1,d2,d3,hQ2,hQ9,hz]
end Go.Abs
end
