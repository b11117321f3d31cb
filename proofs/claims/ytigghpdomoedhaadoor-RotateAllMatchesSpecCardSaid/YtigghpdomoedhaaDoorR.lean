/- Lemmas: an abstract interpreter, and what the functions compute. -/
import Derived.Test.YtigghpdomoedhaaDoorP
import Derived.Test.YtigghpdomoedhaaDoorQ
import Derived.Test.YtigghpdomoedhaaDoorO
import Derived.Test.YtigghpdomoedhaaDoorM
import Derived.Test.YtigghpdomoedhaaDoorL
import Derived.Test.YtigghpdomoedhaaDoorT
import Derived.Test.YtigghpdomoedhaaDoorD
set_option linter.unusedSimpArgs false
set_option linter.unusedVariables false
set_option linter.unusedSectionVars false
section
namespace Go.Abs
set_option maxRecDepth 100000
theorem z7Pa:z0d none ⟨0,[]⟩=[i64 0,.sl .plain none 0 []]:=rfl
theorem z0pb (E:Env):∀ds,z2ja.pre ds→ds.length=z7n.n∧awp E z7n.body (z2q z7n.res (z2ja.post ds)) (z9b z7n.wr ds):=by
 rintro _ ⟨e,rfl⟩
 rw[z7Za,z7Pa]
 simp(maxSteps:=1000000) (disch:=first|omega|(simp;done)|(simp;omega)) [z8a,z1a,z0a,z7n,kT,kF,z0w,z1q]
 skip
theorem z1G (a b c d e f g h i a' b' c' d' e' f' g' h' i':z2a):splice [a,b,c,d,e,f,g,h,i] 0 [a',b',c',d',e',f',g',h',i']=[a',b',c',d',e',f',g',h',i']:=rfl
theorem z7ya (a b c d e f g h i x:z2a):splice [a,b,c,d,e,f,g,h,i] 2 [x]=[a,b,x,d,e,f,g,h,i]:=rfl
theorem z53 (na nb:Option Bool) (t u:z2k):splice (z0d na t) 0 (z0d nb u)=z0d nb u:=rfl
theorem z7ha (a b:Int):(if b<a then b else a)=min a b:=by split<;>omega
set_option maxHeartbeats 16000000 in
theorem z9mc (E:Env) (h75:E.G 75=z2Ya) (h225:E.G 225=z2ja) (h226:E.G 226=ckC) (h227:E.G 227=z4ba) (h228:E.G 228=z8Xa):∀ds,z1ra.pre ds→ds.length=z6n.n∧awp E z6n.body (z2q z6n.res (z1ra.post ds)) (z9b z6n.wr ds):=by
 rintro _ ⟨na,nb,nc,nl,p,t,s,now,i,hp,⟨hv,ha⟩,hs,rfl⟩
 rw[z95]
 have c1:=z2fc (na:=na) (nb:=nb) (nc:=nc) (nl:=nl) now i hp ⟨hv,ha⟩
 have c2:=z6db na nb nc nl p t now i
 by_cases hf:z36 p t.keys now i=0
 ·obtain⟨k,g⟩:=z4Pc (p:=p) s hv hf
  rw[z8hc g,hf] at c2
  have n1:=z98a hs
  obtain⟨l1,l2,l3,_⟩:=z6ua (p:=p) g.ok g.live g.now0 g.now1
  obtain⟨r1,r2,r3,r4,r5,r6,r7⟩:=z2ra g.ok
  have hko:=ha.2.2 k (z4K g.got)
  have q1:=z83a (some false) (nl:=nl) (t:=t) (z8q hv).1 (z4La hko)
  have q2:=z8ba (some false) nl t (z46a k)
  rw[z25a hv g.got] at q2
  have w1:=z1ub none (nl:=some false) (t:=⟨t.next,z9ja t.keys i k⟩) (k:=z9J p s now i k) (z19a hv g.got) ha.2.1 (z1xa g hko)
  have w2:=z3Da none (some false) ⟨t.next,z9ja t.keys i k⟩ (z9J p s now i k)
  rw[z2ya g] at w2
  have hm:z30=1099511627776:=rfl
  have htn:z7N=2147483647:=rfl
  have hh:=g.has
  have hty:0≤k.ty∧k.ty<p.types.length:=by
   simp only[z0Ga,Bool.and_eq_true] at hh
   simpa[z2W] using hh.1
  have f2:=z4Sa (l:=p.types) (i:=k.ty.toNat) (by omega)
  have e2:(z0la p k.ty).life=(p.types.getD k.ty.toNat ⟨[],0,0⟩).life:=rfl
  rw[←e2] at f2
  have hlf:z82 p k now=if 0<(z0la p k.ty).life then min (min (k.fin-k.beg) (z30-now)) (z0la p k.ty).life else min (k.fin-k.beg) (z30-now):=rfl
  generalize(z0la p k.ty).life=L at*
  have g0:=g.now0
  have g1:=g.now1
  have gv:=g.ver
  have hr1:awp E z3B (z2q [.cell 10 (some 2) 10,.cell 11 (some 1) 11,.t 12,.t 13] (.tup [.agg (z0d none (z1M p t s now i).t),.agg [st (z1M p t s now i).s],i64 (z1M p t s now i).id,i64 (z1M p t s now i).e]))
    ⟨[(0,.agg (z4n na nb nc p)),(1,.agg (z0d nl t)),(2,.agg [st s]),(3,i64 now),(4,i64 i)],
     [(6,.bp 6 0),(7,.bp 7 0),(10,.bp 10 0),(11,.bp 11 0),(14,.fn 225 [] []),(15,.bp 15 0),(17,i64 (z82 p k now))],
     [(5,some (z4n na nb nc p)),(6,some (z0d nl t)),(7,some [st s]),(10,some [i64 0,.sl (.own 9) none 0 []]),(11,some [st []]),(15,some (z3j k))]⟩:=by
   have fr:[i64 0,i64 k.ty,st (drv s z9xa []),i64 k.uses,i64 now,i64 (now+z82 p k now),i64 (k.ver+1),i64 i,bo false]=z3j (z9J p s now i k):=rfl
   have fo:splice (z3j k) 3 [i64 (z9va k.uses 176)]=z3j (z46a k):=rfl
   have ft:z0d (some false) ⟨t.next,z9ja t.keys i k⟩=z0d (some false) ⟨t.next,z9ja t.keys i k⟩:=rfl
   simp only[z3ga,if_true] at q2
   rw[z1M,if_pos hf]
   by_cases hc:t.keys.length<4096∧t.next<z7N
   ·rw[if_pos hc] at w2⊢
    simp only[z3ga,if_true] at w2
    rw[z3B]
    simp(maxSteps:=1000000) (disch:=first|omega|(simp;done)|(simp;omega)) [z8a,z1a,z0a,h75,h227,n1,q1,q2,kT,kF,dT,dF,fr,fo,z1G,z7ya,z53]
    rw[z6M]
    simp(maxSteps:=1000000) (disch:=first|omega|(simp;done)|(simp;omega)) [z8a,z1a,z0a,h228,w1,w2,kT,kF,dT,dF,z53,z3t]
    rw[z7W]
    simp(maxSteps:=1000000) (disch:=first|omega|(simp;done)|(simp;omega)) [z8a,z1a,z0a,kT,kF,dT,dF,z53,z3t,z1q]
    skip
   ·rw[if_neg hc] at w2⊢
    simp only[z3ga] at w2
    rw[z3B]
    simp(maxSteps:=1000000) (disch:=first|omega|(simp;done)|(simp;omega)) [z8a,z1a,z0a,h75,h227,n1,q1,q2,kT,kF,dT,dF,fr,fo,z1G,z7ya,z53]
    rw[z6M]
    simp(maxSteps:=1000000) (disch:=first|omega|(simp;done)|(simp;omega)) [z8a,z1a,z0a,h228,h225,w1,w2,kT,kF,dT,dF,z53,z3t,z1q]
    skip
  by_cases hb:0<L
  ·rw[if_pos hb,hm] at hlf
   simp(maxSteps:=1000000) (disch:=first|omega|(simp;done)|(simp;omega)) [z8a,z1a,z0a,z6n,h226,c1,c2,kT,kF,dT,dF,z8k,z1r,z6i]
   rw[z2M]
   simp(maxSteps:=1000000) (disch:=first|omega|(simp;done)|(simp;omega)) [z8a,z1a,z0a,f2,hb,kT,kF,dT,dF,↓z3T,z6S,z7ha,hlf.symm]
   exact⟨hty,by omega,by omega,hr1⟩
  ·rw[if_neg hb,hm] at hlf
   simp(maxSteps:=1000000) (disch:=first|omega|(simp;done)|(simp;omega)) [z8a,z1a,z0a,z6n,h226,c1,c2,kT,kF,dT,dF,z8k,z1r,z6i]
   rw[z2M]
   simp(maxSteps:=1000000) (disch:=first|omega|(simp;done)|(simp;omega)) [z8a,z1a,z0a,f2,hb,kT,kF,dT,dF,↓z3T,z6S,z7ha,hlf.symm]
   exact⟨hty,by omega,by omega,hr1⟩
 ·have e:z1M p t s now i=⟨⟨0,[]⟩,[],0,z36 p t.keys now i⟩:=by rw[z1M,if_neg hf]
  rw[e]
  have hb:(z36 p t.keys now i==0)=false:=beq_false_of_ne hf
  generalize z36 p t.keys now i=f at*
  simp(maxSteps:=1000000) (disch:=first|omega|(simp;done)|(simp;omega)) [z8a,z1a,z0a,z6n,h225,h226,c1,c2,kT,kF,dT,dF,hb,z0w,z1q,z8k,z1r,z6i,z7Pa]
end Go.Abs
end

section
namespace Go.Abs
set_option maxRecDepth 100000
theorem z81a (a b c d x y:z2a) (nl:Option Bool) (t:z2k):splice [a,b,c,d] 0 (z0d nl t++[x,y])=z0d nl t++[x,y]:=rfl
theorem z88a (x y:Int) (nl:Option Bool) (t:z2k):(∀c:z2a,c∈z0d nl t∨c=i64 x∨c=i64 y→z9c c)∧(∀c:z2a,c∈z0d nl t∨c=i64 x∨c=i64 y→z6g c=false):=by
 refine⟨?_,?_⟩
 ·rintro c (h|rfl|rfl)
  ·exact(z6Da nl t).2 trivial c h
  ·simp
  ·simp
 ·rintro c (h|rfl|rfl)
  ·exact(z2Qa nl t).2 trivial c h
  ·simp
  ·simp
theorem z0wb (n y:Int) (m:Nat) (ks:List z2a) (x:List UInt8):(∀c∈([i64 n,.sl .plain none m ks,st x,i64 y,.sl .plain none 0 [],i64 0]:List z2a),z9c c)∧(∀c∈([i64 n,.sl .plain none m ks,st x,i64 y,.sl .plain none 0 [],i64 0]:List z2a),z6g c=false):=by
 constructor<;>simp
theorem z0Sc (x y:z2a) (nl:Option Bool) (t:z2k):hdA ((z0d nl t++[x,y]).drop 3)=y:=rfl
theorem z5Kc (x y:z2a) (nl:Option Bool) (t:z2k):hdA ((z0d nl t++[x,y]).drop 2)=x:=rfl
theorem z3Gc (x y:z2a) (nl:Option Bool) (t:z2k):(z0d nl t++[x,y]).take 2=z0d nl t:=rfl
set_option maxHeartbeats 16000000 in
theorem z2Wb (E:Env) (h81:E.G 81=z2Ya) (h257:E.G 257=z8Eb) (h258:E.G 258=z0Fa) (h259:E.G 259=z4ba) (h260:E.G 260=z1ma):∀ds,z3fa.pre ds→ds.length=z3f.n∧awp E z3f.body (z2q z3f.res (z3fa.post ds)) (z9b z3f.wr ds):=by
 rintro _ ⟨na,nb,nc,nl,p,t,s,now,i,hp,⟨hv,ha⟩,hs,rfl⟩
 rw[z3Aa]
 have c1:=z9Xb (na:=na) (nb:=nb) (nc:=nc) (nl:=nl) now i hp ⟨hv,ha⟩
 have c2:=z0Pa na nb nc nl p t now i
 by_cases hf:z36 p t.keys now i=0
 ·obtain⟨k,g⟩:=z4Pc (p:=p) s hv hf
  rw[hf] at c2
  have e1:=z57 (nl:=nl) (t:=t) i (z8q hv).1
  have e3:=z7O nl t i
  rw[g.got,z8va] at e3
  have n1:=z98a hs
  obtain⟨l1,l2,l3,_⟩:=z6ua (p:=p) g.ok g.live g.now0 g.now1
  obtain⟨r1,r2,r3,r4,r5,r6,r7⟩:=z2ra g.ok
  have hko:=ha.2.2 k (z4K g.got)
  have q1:=z83a (some false) (nl:=nl) (t:=t) (z8q hv).1 (z4La hko)
  have q2:=z8ba (some false) nl t (z46a k)
  rw[z25a hv g.got] at q2
  have w1:=z3lb none (nl:=some false) (t:=⟨t.next,z9ja t.keys i k⟩) (k:=z9J p s now i k) (z19a hv g.got) ha.2.1 (z1xa g hko)
  have w2:=z7Da none (some false) ⟨t.next,z9ja t.keys i k⟩ (z9J p s now i k)
  rw[z2ya g] at w2
  have hm:z30=1099511627776:=rfl
  have htn:z7N=2147483647:=rfl
  have hh:=g.has
  have hty:0≤k.ty∧k.ty<p.types.length:=by
   simp only[z0Ga,Bool.and_eq_true] at hh
   simpa[z2W] using hh.1
  have f2:=z4Sa (l:=p.types) (i:=k.ty.toNat) (by omega)
  have e2:(z0la p k.ty).life=(p.types.getD k.ty.toNat ⟨[],0,0⟩).life:=rfl
  rw[←e2] at f2
  have hlf:z82 p k now=if 0<(z0la p k.ty).life then min (min (k.fin-k.beg) (z30-now)) (z0la p k.ty).life else min (k.fin-k.beg) (z30-now):=rfl
  generalize(z0la p k.ty).life=L at*
  have g0:=g.now0
  have g1:=g.now1
  have gv:=g.ver
  have hr1:awp E z3p (z2q [.cell 10 (some 6) 10] (.agg (z0d none (z1M p t s now i).t++[st (z1M p t s now i).s,i64 (z1M p t s now i).id,.sl .plain none 0 [],i64 (z1M p t s now i).e])))
    ⟨[(0,.agg (z4n na nb nc p)),(1,.agg (z0d nl t)),(2,.agg [st s]),(3,i64 now),(4,i64 i)],
     [(6,.bp 6 0),(10,.bp 10 0),(12,.bp 12 0),(14,st (drv s z9xa [])),(15,.bp 15 0),(16,i64 (z82 p k now))],
     [(5,some (z4n na nb nc p)),(6,some (z0d nl t)),(7,some [st s]),(10,some [i64 0,.sl (.own 9) none 0 [],st [],i64 0,.sl (.own 1) none 0 [],i64 0]),(12,some (z3j k)),(15,some [st (drv s z6aa [])])]⟩:=by
   have fr:[i64 0,i64 k.ty,st (drv s z9xa []),i64 k.uses,i64 now,i64 (now+z82 p k now),i64 (k.ver+1),i64 i,bo false]=z3j (z9J p s now i k):=rfl
   have fo:splice (z3j k) 3 [i64 (z9va k.uses 176)]=z3j (z46a k):=rfl
   simp only[z3ga,if_true] at q2
   rw[z1M,if_pos hf]
   by_cases hc:t.keys.length<4096∧t.next<z7N
   ·rw[if_pos hc] at w2⊢
    simp only[if_true] at w2
    rw[z3p]
    simp(maxSteps:=1000000) (disch:=first|omega|(simp;done)|(simp;omega)) [z8a,z1a,z0a,h259,h260,q1,q2,w1,w2,kT,kF,dT,dF,fr,fo,z1G,z6i,z53,z3t,z81a,z0Sc,z5Kc,z3Gc]
    rw[z4F]
    simp(maxSteps:=1000000) (disch:=first|omega|(simp;done)|(simp;omega)) [z8a,z1a,z0a,kT,kF,dT,dF,z53,z3t,z81a,z0Sc,z5Kc,z3Gc]
    exact⟨z88a _ _ _ _,⟨rfl,z0wb _ _ _ _ _⟩,Nat.le_refl 6,rfl⟩
   ·rw[if_neg hc] at w2⊢
    simp only[] at w2
    rw[z3p]
    simp(maxSteps:=1000000) (disch:=first|omega|(simp;done)|(simp;omega)) [z8a,z1a,z0a,h259,h260,q1,q2,w1,w2,kT,kF,dT,dF,fr,fo,z1G,z6i,z53,z3t,z81a,z0Sc,z5Kc,z3Gc]
    exact⟨z88a _ _ _ _,Nat.le_refl 6,rfl⟩
  by_cases hb:0<L
  ·rw[if_pos hb,hm] at hlf
   simp(maxSteps:=1000000) (disch:=first|omega|(simp;done)|(simp;omega)) [z8a,z1a,z0a,z3f,h257,c1,c2,kT,kF,dT,dF,z8k,z1r,z6i]
   rw[z2w]
   simp(maxSteps:=1000000) (disch:=first|omega|(simp;done)|(simp;omega)) [z8a,z1a,z0a,h258,h81,e1,e3,n1,f2,hb,kT,kF,dT,dF,↓z3T,z6S,z7ha,hlf.symm,z8k,z1r,z6i,z1q]
   exact⟨hty,by omega,by omega,hr1⟩
  ·rw[if_neg hb,hm] at hlf
   simp(maxSteps:=1000000) (disch:=first|omega|(simp;done)|(simp;omega)) [z8a,z1a,z0a,z3f,h257,c1,c2,kT,kF,dT,dF,z8k,z1r,z6i]
   rw[z2w]
   simp(maxSteps:=1000000) (disch:=first|omega|(simp;done)|(simp;omega)) [z8a,z1a,z0a,h258,h81,e1,e3,n1,f2,hb,kT,kF,dT,dF,↓z3T,z6S,z7ha,hlf.symm,z8k,z1r,z6i,z1q]
   exact⟨hty,by omega,by omega,hr1⟩
 ·have e:z1M p t s now i=⟨⟨0,[]⟩,[],0,z36 p t.keys now i⟩:=by rw[z1M,if_neg hf]
  rw[e]
  have hb:(z36 p t.keys now i==0)=false:=beq_false_of_ne hf
  generalize z36 p t.keys now i=f at*
  simp(maxSteps:=1000000) (disch:=first|omega|(simp;done)|(simp;omega)) [z8a,z1a,z0a,z3f,h257,c1,c2,kT,kF,dT,dF,hb,z8k,z1r,z6i,z7Pa]
  exact⟨Nat.le_refl 6,rfl⟩
end Go.Abs
end

section
namespace Go.Abs
set_option maxRecDepth 100000
def z3ra (d:z2a):List Int:=(gCs d).map asI
@[simp] theorem z0gb (m:z33) (nl:Option Bool) (n:Nat) (l:List Int):z3ra (.sl m nl n (z6l l))=l:=by
 have h:∀l:List Int,(z6l l).map asI=l:=fun l=>by
  induction l with
  |nil=>rfl
  |cons a l ih=>rw[show z6l (a::l)=i64 a::z6l l from rfl,List.map_cons,ih];rfl
 exact h l
def gNl (d:z2a):Option Bool:=match d with| .agg [_,.sl _ nl _ _]=>nl|_=>none
def z1Ub (n':Option Bool) (o:AllO):z2a:= .tup [.agg (z0d n' o.t),.agg [st o.s],.sl .plain none o.m.length (z6l o.m),i64 o.e]
def z3ib:z4a:=⟨fun ds=>∃(na nb nc nl ni:Option Bool) (p:z9n) (t:z2k) (s:List UInt8) (now:Int) (ids:List Int),z4Q p∧z2N t∧s.length<1000000000∧ids.length≤1000∧ds=[.agg (z4n na nb nc p),.agg (z0d nl t),.agg [st s],i64 now,.sl .plain ni ids.length (z6l ids)],
 fun ds=>z1Ub (if z3ra (nth ds 4)=[] then gNl (nth ds 1) else none) (z0aa (z69 (gCs (nth ds 0))) (asI (nth ds 3)) (z3ra (nth ds 4)) (z7D (gCs (nth ds 1))) (gSd (nth ds 2)) [])⟩
theorem z9La {na nb nc nl ni:Option Bool} {p:z9n} {t:z2k} {s:List UInt8} (now:Int) {ids:List Int} (hp:z4Q p) (h:z2N t) (hs:s.length<1000000000) (hi:ids.length≤1000):z3ib.pre [.agg (z4n na nb nc p),.agg (z0d nl t),.agg [st s],i64 now,.sl .plain ni ids.length (z6l ids)]=True:=eq_true ⟨na,nb,nc,nl,ni,p,t,s,now,ids,hp,h,hs,hi,rfl⟩
theorem z2sa (na nb nc nl ni:Option Bool) (p:z9n) (t:z2k) (s:List UInt8) (now:Int) (ids:List Int) (n:Nat):z3ib.post [.agg (z4n na nb nc p),.agg (z0d nl t),.agg [st s],i64 now,.sl .plain ni n (z6l ids)]=z1Ub (if ids=[] then nl else none) (z0aa p now ids t s []):=by
 show z1Ub (if z3ra (.sl .plain ni n (z6l ids))=[] then gNl (.agg (z0d nl t)) else none) (z0aa (z69 (z4n na nb nc p)) now (z3ra (.sl .plain ni n (z6l ids))) (z7D (z0d nl t)) (gSd (.agg [st s])) [])=_
 rw[z7t,z0k,z5Na,z0gb];rfl
structure AllS where
 n:Nat
 nl:Option Bool
 t:z2k
 s:List UInt8
 m:List Int
set_option maxHeartbeats 16000000 in
theorem z4ec (E:Env) (h229:E.G 229=z1ra):∀ds,z3ib.pre ds→ds.length=z4r.n∧awp E z4r.body (z2q z4r.res (z3ib.post ds)) (z9b z4r.wr ds):=by
 rintro _ ⟨na,nb,nc,nl,ni,p,t,s,now,ids,hp,hg,hs,hi,rfl⟩
 rw[z2sa]
 simp(maxSteps:=1000000) (disch:=first|omega|(simp;done)|(simp;omega)) [z8a,z1a,z0a,z4r,kT,kF,dT,dF]
 refine z7a fun Q0 hQ0=> ?_
 refine z4f (fun a:AllS=>⟨[(0,.agg (z4n na nb nc p)),(1,.agg (z0d nl t)),(2,.agg [st s]),(3,i64 now),(4,.sl .plain ni ids.length (z6l ids))],
  [(5,.bp 5 0),(6,.bp 6 0),(7,.bp 7 0),(10,.bp 10 0),(11,.bp 11 0),(14,.sl (.own 1) none a.m.length (z6l a.m)),(21,.sl .plain ni ids.length (z6l ids)),(22,i64 ids.length),(23,i64 a.n)],
  [(5,some (z4n na nb nc p)),(6,some (z0d a.nl a.t)),(7,some [st a.s]),(10,some [i64 0,.sl (.own 9) none 0 []]),(11,some [st []])]⟩)
  (fun a=>ids.length-a.n) (fun a=>a.n≤ids.length∧a.m.length=a.n∧z2N a.t∧a.s.length<1000000000∧a.nl=(if a.n=0 then nl else none)∧z0aa p now ids t s []=z0aa p now (ids.drop a.n) a.t a.s a.m) ⟨0,nl,t,s,[]⟩ (by simp) ⟨Nat.zero_le _,rfl,hg,hs,rfl,rfl⟩ fun a ha=> ?_
 obtain⟨n,n',u,v,m⟩:=a
 obtain⟨h1,h2,h3,h4,h5,h6⟩:=ha
 simp only at h1 h2 h3 h4 h5 h6⊢
 rw[h6] at hQ0
 by_cases h:n<ids.length
 ·have lt:(n:Int)<ids.length:=by omega
  have hne:¬ids=[]:=by intro he;rw[he] at h;simp at h
  rw[if_neg hne] at hQ0
  have ka:=z6pa h
  have kd:ids.drop n=ids.getD n 0::ids.drop (n+1):=by rw[List.drop_eq_getElem_cons h,List.getD,List.getElem?_eq_getElem h];rfl
  rw[kd,z0aa] at hQ0 h6
  generalize ids.getD n 0=i at*
  have c1:=z6sa (na:=na) (nb:=nb) (nc:=nc) (nl:=n') now i hp h3 h4
  have c2:=z95 na nb nc n' p u v now i
  have hgood:=z3ca (p:=p) (s:=v) (now:=now) (i:=i) h3
  generalize z1M p u v now i=r at*
  by_cases he:r.e=0
  ·rw[if_pos he] at hQ0 h6
   rw[he] at c2
   obtain⟨g1,g2⟩:=hgood he
   simp(maxSteps:=1000000) (disch:=first|omega|(simp;done)|(simp;omega)) [z8a,z1a,z0a,z6A,z5M,lt,kT,kF,dT,dF,ka,h229,c1,c2,z3t,z1q,z0w]
   rw[z1X]
   simp(maxSteps:=1000000) (disch:=first|omega|(simp;done)|(simp;omega)) [z8a,z1a,z0a,kT,kF,dT,dF,z53,z3t,z1q,z9K]
   exact⟨by omega,⟨by omega,by omega⟩,⟨n+1,none,r.t,r.s,m++[r.id]⟩,by show ids.length-(n+1)<_;omega,⟨by show n+1≤_;omega,by simp[h2],g1,by show r.s.length<_;omega,by simp,h6⟩,⟨⟨by simp,rfl⟩,by show(n:Int)+1=((n+1:Nat):Int);omega⟩,rfl,rfl⟩
  ·rw[if_neg he] at hQ0
   have hb:(r.e==0)=false:=beq_false_of_ne he
   simp(maxSteps:=1000000) (disch:=first|omega|(simp;done)|(simp;omega)) [z8a,z1a,z0a,z6A,z5M,lt,kT,kF,dT,dF,ka,h229,c1,c2,z3t,z1q,hb,z0w,z7Pa,hQ0,z1Ub]
   omega
 ·have lt:¬(n:Int)<ids.length:=by omega
  rw[List.drop_eq_nil_of_le (by omega),z0aa] at hQ0
  have e:n'=if ids=[] then nl else none:=by
   rw[h5]
   by_cases h0:n=0
   ·rw[if_pos h0,if_pos (List.length_eq_zero_iff.1 (by omega))]
   ·rw[if_neg h0,if_neg (fun h'=>h0 (by rw[h'] at h1;simpa using h1))]
  rw[←e] at hQ0
  simp(maxSteps:=1000000) (disch:=first|omega|(simp;done)|(simp;omega)) [z8a,z1a,z0a,z6A,z3W,lt,kT,kF,dT,dF,z3t,z1q,hQ0,z1Ub]
  skip
end Go.Abs
end

section
namespace Go.Abs
set_option maxRecDepth 100000
def z19b (x y:z2a):z2a:=match x,y with| .lit (.int k a),.lit (.int _ b)=> .lit (.int k (if b>a then b else a))|_,_=> .undef
theorem z5ja (E:Env) (get:Nat→z2a) (getB:Nat→Option (List z2a)) (x y:Arg):eff E get getB (.max2 x y)={val:=z19b (arg E get x) (arg E get y)}:=rfl
theorem z1ga (a b:Int):z19b (i64 a) (i64 b)=i64 (if b>a then b else a):=rfl
theorem z67a (a b:Int):(if b>a then b else a)=max a b:=by split<;>omega
def z5Wa:z4a:=⟨fun ds=>∃(na nb nc nl:Option Bool) (p:z9n) (t:z2k) (now ahead:Int),z4Q p∧z2N t∧ds=[.agg (z4n na nb nc p),.agg (z0d nl t),i64 now,i64 ahead],
 fun ds=>let l:=z1ca (z69 (gCs (nth ds 0))) (z7D (gCs (nth ds 1))).keys (asI (nth ds 2)) (asI (nth ds 3));.sl (.own 1) none l.length (z6l l)⟩
theorem z24a {na nb nc nl:Option Bool} {p:z9n} {t:z2k} (now ahead:Int) (hp:z4Q p) (h:z2N t):z5Wa.pre [.agg (z4n na nb nc p),.agg (z0d nl t),i64 now,i64 ahead]=True:=eq_true ⟨na,nb,nc,nl,p,t,now,ahead,hp,h,rfl⟩
theorem z5da (na nb nc nl:Option Bool) (p:z9n) (t:z2k) (now ahead:Int):z5Wa.post [.agg (z4n na nb nc p),.agg (z0d nl t),i64 now,i64 ahead]= .sl (.own 1) none (z1ca p t.keys now ahead).length (z6l (z1ca p t.keys now ahead)):=by
 show(let l:=z1ca (z69 (z4n na nb nc p)) (z7D (z0d nl t)).keys now ahead;z2a.sl (.own 1) none l.length (z6l l))=_
 rw[z7t,z0k]
set_option maxHeartbeats 16000000 in
theorem z9ec (E:Env) (h233:E.G 233=z3U) (h239:E.G 239=z14) (h240:E.G 240=z4Qa):∀ds,z5Wa.pre ds→ds.length=z8n.n∧awp E z8n.body (z2q z8n.res (z5Wa.post ds)) (z9b z8n.wr ds):=by
 rintro _ ⟨na,nb,nc,nl,p,t,now,ahead,hp,hg,rfl⟩
 rw[z5da]
 obtain⟨hv,ha⟩:=hg
 obtain⟨tk,hl,_,hk⟩:=z8q hv
 have hm:z30=1099511627776:=rfl
 by_cases c1:min now ahead<0
 ·have e:z1ca p t.keys now ahead=[]:=by rw[z1ca,if_neg (by omega)]
  rw[e]
  simp(maxSteps:=1000000) (disch:=first|omega|(simp;done)|(simp;omega)) [z8a,z1a,z0a,z8n,↓z3T,z6S,z7ha,↓z5ja,z1ga,z67a,c1,kT,kF,dT,dF]
  skip
 by_cases c2:1099511627776<max now ahead
 ·have e:z1ca p t.keys now ahead=[]:=by rw[z1ca,if_neg (by omega)]
  rw[e]
  simp(maxSteps:=1000000) (disch:=first|omega|(simp;done)|(simp;omega)) [z8a,z1a,z0a,z8n,↓z3T,z6S,z7ha,↓z5ja,z1ga,z67a,c1,c2,kT,kF,dT,dF]
  skip
 ·have e:z1ca p t.keys now ahead=z6ka p t.keys now ahead t.keys.length:=by rw[z1ca,if_pos (by omega)]
  rw[e]
  have b0:0≤now∧0≤ahead∧now≤1099511627776∧ahead≤1099511627776:=by omega
  obtain⟨b1,b2,b3,b4⟩:=b0
  simp(maxSteps:=1000000) (disch:=first|omega|(simp;done)|(simp;omega)) [z8a,z1a,z0a,z8n,z2X,↓z3T,z6S,z7ha,↓z5ja,z1ga,z67a,c1,c2,kT,kF,dT,dF]
  refine z7a fun Q0 hQ0=> ?_
  refine z4f (fun n:Nat=>⟨[(0,.agg (z4n na nb nc p)),(1,.agg (z0d nl t)),(2,i64 now),(3,i64 ahead)],[(4,.bp 4 0),(5,.bp 5 0),(9,.sl (.own 1) none (z6ka p t.keys now ahead n).length (z6l (z6ka p t.keys now ahead n))),(25,.sl .plain nl t.keys.length (z1k t.keys)),(26,i64 t.keys.length),(27,i64 n)],[(4,some (z4n na nb nc p)),(5,some (z0d nl t))]⟩) (fun n=>t.keys.length-n) (fun n=>n≤t.keys.length) 0 (by simp[z6ka]) (by omega) fun n hn=> ?_
  by_cases h:n<t.keys.length
  ·have lt:(n:Int)<t.keys.length:=by omega
   have ka:=z2F h
   have dt:=z1Fb (p:=p) (now:=now) (ahead:=ahead) h
   have df:=z5Gb (p:=p) (now:=now) (ahead:=ahead) h
   have hle:=z3Ka p t.keys now ahead n
   have hko:=ha.2.2 _ (z5ea h)
   generalize z3g t.keys n=k at*
   have s1:=z1Z (nl:=nl) (t:=t) k.id hv
   have s2:=z3I nl t k.id
   have l1:=z7da now hko
   have l2:=z7R k now
   have m1:=z0va (na:=na) (nb:=nb) (nc:=nc) (f:=1) hp hko.2.1 ⟨by omega,by omega⟩
   obtain⟨_,_,_,_,_,⟨f1,f2⟩,_⟩:=hko
   generalize hD:z6ka p t.keys now ahead n=D at*
   rw[z28b] at dt df
   cases hn1:z1R t.keys k.id with
   |some j=>
    have df:=df (by simp[hn1])
    rw[hn1,z37] at s2
    simp(maxSteps:=1000000) (disch:=first|omega|(simp;done)|(simp;omega)) [z8a,z1a,z0a,z0o,z4q,lt,h233,h239,h240,s1,s2,l1,l2,m1,kT,kF,dT,dF,z6i,ka,df]
    exact⟨by omega,n+1,by omega,by omega,by rw[df];exact⟨rfl,rfl⟩,by omega⟩
   |none=>
    rw[hn1,z37] at s2
    cases hn2:z4T k now with
    |false=>
     have df:=df (by simp[hn2])
     simp(maxSteps:=1000000) (disch:=first|omega|(simp;done)|(simp;omega)) [z8a,z1a,z0a,z0o,z4q,lt,h233,h239,h240,s1,s2,l1,l2,m1,kT,kF,dT,dF,z6i,ka,hn2,df]
     exact⟨by omega,n+1,by omega,by omega,by rw[df];exact⟨rfl,rfl⟩,by omega⟩
    |true=>
     cases hn3:z0Ga p k.ty 1 with
     |false=>
      have df:=df (by simp[hn3])
      simp(maxSteps:=1000000) (disch:=first|omega|(simp;done)|(simp;omega)) [z8a,z1a,z0a,z0o,z4q,lt,h233,h239,h240,s1,s2,l1,l2,m1,kT,kF,dT,dF,z6i,ka,hn2,hn3,df]
      exact⟨by omega,n+1,by omega,by omega,by rw[df];exact⟨rfl,rfl⟩,by omega⟩
     |true=>
      by_cases hn4:k.fin≤now+ahead
      ·have dt:=dt (by simp[hn1,hn2,hn3,hn4])
       simp(maxSteps:=1000000) (disch:=first|omega|(simp;done)|(simp;omega)) [z8a,z1a,z0a,z0o,z4q,lt,h233,h239,h240,s1,s2,l1,l2,m1,kT,kF,dT,dF,z6i,ka,hn2,hn3,hn4,z9K]
       exact⟨by omega,⟨by omega,by omega⟩,n+1,by omega,by omega,by rw[dt];exact⟨by simp,rfl⟩,by omega⟩
      ·have df:=df (by simp[hn4])
       simp(maxSteps:=1000000) (disch:=first|omega|(simp;done)|(simp;omega)) [z8a,z1a,z0a,z0o,z4q,lt,h233,h239,h240,s1,s2,l1,l2,m1,kT,kF,dT,dF,z6i,ka,hn2,hn3,hn4,df]
       exact⟨by omega,n+1,by omega,by omega,by rw[df];exact⟨rfl,rfl⟩,by omega⟩
  ·have lt:¬(n:Int)<t.keys.length:=by omega
   have e:n=t.keys.length:=by omega
   subst e
   simp(maxSteps:=1000000) (disch:=first|omega|(simp;done)|(simp;omega)) [z8a,z1a,z0a,z0o,z6U,lt,kT,kF,dT,dF,hQ0]
   skip
end Go.Abs
end

section
namespace Go.Abs
set_option maxRecDepth 100000
set_option maxHeartbeats 16000000 in
theorem z3Sb (E:Env) (h264:E.G 264=z3U) (h269:E.G 269=z14) (h270:E.G 270=z4Qa):∀ds,z5Wa.pre ds→ds.length=z6d.n∧awp E z6d.body (z2q z6d.res (z5Wa.post ds)) (z9b z6d.wr ds):=by
 rintro _ ⟨na,nb,nc,nl,p,t,now,ahead,hp,hg,rfl⟩
 rw[z5da]
 obtain⟨hv,ha⟩:=hg
 obtain⟨tk,hl,_,hk⟩:=z8q hv
 have hm:z30=1099511627776:=rfl
 by_cases c1:now<0
 ·have e:z1ca p t.keys now ahead=[]:=by rw[z1ca,if_neg (by omega)]
  rw[e]
  simp(maxSteps:=1000000) (disch:=first|omega|(simp;done)|(simp;omega)) [z8a,z1a,z0a,z6d,c1,kT,kF,dT,dF]
  skip
 by_cases c2:1099511627776<now
 ·have e:z1ca p t.keys now ahead=[]:=by rw[z1ca,if_neg (by omega)]
  rw[e]
  simp(maxSteps:=1000000) (disch:=first|omega|(simp;done)|(simp;omega)) [z8a,z1a,z0a,z6d,c1,c2,kT,kF,dT,dF]
  skip
 by_cases c3:ahead<0
 ·have e:z1ca p t.keys now ahead=[]:=by rw[z1ca,if_neg (by omega)]
  rw[e]
  simp(maxSteps:=1000000) (disch:=first|omega|(simp;done)|(simp;omega)) [z8a,z1a,z0a,z6d,c1,c2,c3,kT,kF,dT,dF]
  skip
 by_cases c4:1099511627776<ahead
 ·have e:z1ca p t.keys now ahead=[]:=by rw[z1ca,if_neg (by omega)]
  rw[e]
  simp(maxSteps:=1000000) (disch:=first|omega|(simp;done)|(simp;omega)) [z8a,z1a,z0a,z6d,c1,c2,c3,c4,kT,kF,dT,dF]
  skip
 ·have e:z1ca p t.keys now ahead=z6ka p t.keys now ahead t.keys.length:=by rw[z1ca,if_pos (by omega)]
  rw[e]
  have b1:0≤now:=by omega
  have b2:0≤ahead:=by omega
  have b3:now≤1099511627776:=by omega
  have b4:ahead≤1099511627776:=by omega
  simp(maxSteps:=1000000) (disch:=first|omega|(simp;done)|(simp;omega)) [z8a,z1a,z0a,z6d,z6H,c1,c2,c3,c4,kT,kF,dT,dF]
  refine z7a fun Q0 hQ0=> ?_
  refine z4f (fun n:Nat=>⟨[(0,.agg (z4n na nb nc p)),(1,.agg (z0d nl t)),(2,i64 now),(3,i64 ahead)],[(4,.bp 4 0),(5,.bp 5 0),(9,.sl (.own 1) none (z6ka p t.keys now ahead n).length (z6l (z6ka p t.keys now ahead n))),(10,i64 n)],[(4,some (z4n na nb nc p)),(5,some (z0d nl t))]⟩) (fun n=>t.keys.length-n) (fun n=>n≤t.keys.length) 0 (by simp[z6ka]) (by omega) fun n hn=> ?_
  by_cases h:n<t.keys.length
  ·have lt:(n:Int)<t.keys.length:=by omega
   have ka:=z2F h
   have dt:=z1Fb (p:=p) (now:=now) (ahead:=ahead) h
   have df:=z5Gb (p:=p) (now:=now) (ahead:=ahead) h
   have hle:=z3Ka p t.keys now ahead n
   have hko:=ha.2.2 _ (z5ea h)
   generalize z3g t.keys n=k at*
   have s1:=z1Z (nl:=nl) (t:=t) k.id hv
   have s2:=z3I nl t k.id
   have l1:=z7da now hko
   have l2:=z7R k now
   have m1:=z0va (na:=na) (nb:=nb) (nc:=nc) (f:=1) hp hko.2.1 ⟨by omega,by omega⟩
   obtain⟨_,_,_,_,_,⟨f1,f2⟩,_⟩:=hko
   generalize hD:z6ka p t.keys now ahead n=D at*
   rw[z28b] at dt df
   cases hn1:z1R t.keys k.id with
   |some j=>
    have df:=df (by simp[hn1])
    rw[hn1,z37] at s2
    cases hn2:z4T k now with
    |false=>
     simp(maxSteps:=1000000) (disch:=first|omega|(simp;done)|(simp;omega)) [z8a,z1a,z0a,z8f,z3i,lt,h264,h269,h270,s1,s2,l1,l2,m1,kT,kF,dT,dF,z6i,ka,hn2,df]
     exact⟨by omega,n+1,by omega,by omega,by rw[df];exact⟨rfl,rfl⟩,by omega⟩
    |true=>
     simp(maxSteps:=1000000) (disch:=first|omega|(simp;done)|(simp;omega)) [z8a,z1a,z0a,z8f,z3i,lt,h264,h269,h270,s1,s2,l1,l2,m1,kT,kF,dT,dF,z6i,ka,hn2,df]
     exact⟨by omega,n+1,by omega,by omega,by rw[df];exact⟨rfl,rfl⟩,by omega⟩
   |none=>
    rw[hn1,z37] at s2
    cases hn2:z4T k now with
    |false=>
     have df:=df (by simp[hn2])
     simp(maxSteps:=1000000) (disch:=first|omega|(simp;done)|(simp;omega)) [z8a,z1a,z0a,z8f,z3i,lt,h264,h269,h270,s1,s2,l1,l2,m1,kT,kF,dT,dF,z6i,ka,hn2,df]
     exact⟨by omega,n+1,by omega,by omega,by rw[df];exact⟨rfl,rfl⟩,by omega⟩
    |true=>
     cases hn3:z0Ga p k.ty 1 with
     |false=>
      have df:=df (by simp[hn3])
      simp(maxSteps:=1000000) (disch:=first|omega|(simp;done)|(simp;omega)) [z8a,z1a,z0a,z8f,z3i,lt,h264,h269,h270,s1,s2,l1,l2,m1,kT,kF,dT,dF,z6i,ka,hn2,hn3,df]
      exact⟨by omega,n+1,by omega,by omega,by rw[df];exact⟨rfl,rfl⟩,by omega⟩
     |true=>
      by_cases hn4:k.fin≤now+ahead
      ·have dt:=dt (by simp[hn1,hn2,hn3,hn4])
       simp(maxSteps:=1000000) (disch:=first|omega|(simp;done)|(simp;omega)) [z8a,z1a,z0a,z8f,z3i,lt,h264,h269,h270,s1,s2,l1,l2,m1,kT,kF,dT,dF,z6i,ka,hn2,hn3,hn4,z9K]
       exact⟨by omega,⟨by omega,by omega⟩,n+1,by omega,by omega,by rw[dt];exact⟨by simp,rfl⟩,by omega⟩
      ·have df:=df (by simp[hn4])
       simp(maxSteps:=1000000) (disch:=first|omega|(simp;done)|(simp;omega)) [z8a,z1a,z0a,z8f,z3i,lt,h264,h269,h270,s1,s2,l1,l2,m1,kT,kF,dT,dF,z6i,ka,hn2,hn3,hn4,df]
       exact⟨by omega,n+1,by omega,by omega,by rw[df];exact⟨rfl,rfl⟩,by omega⟩
  ·have lt:¬(n:Int)<t.keys.length:=by omega
   have e:n=t.keys.length:=by omega
   subst e
   simp(maxSteps:=1000000) (disch:=first|omega|(simp;done)|(simp;omega)) [z8a,z1a,z0a,z8f,z9I,lt,kT,kF,dT,dF,hQ0]
   skip
end Go.Abs
end

section
namespace Go.Abs
set_option maxRecDepth 100000
def z0Ka:z4a:=⟨z3ib.pre,fun ds=>let o:=z0aa (z69 (gCs (nth ds 0))) (asI (nth ds 3)) (z3ra (nth ds 4)) (z7D (gCs (nth ds 1))) (gSd (nth ds 2)) [];.agg (z0d (if z3ra (nth ds 4)=[] then gNl (nth ds 1) else none) o.t++[st o.s,i64 0,.sl .plain none o.m.length (z6l o.m),i64 o.e])⟩
theorem z0mb {na nb nc nl ni:Option Bool} {p:z9n} {t:z2k} {s:List UInt8} (now:Int) {ids:List Int} (hp:z4Q p) (h:z2N t) (hs:s.length<1000000000) (hi:ids.length≤1000):z0Ka.pre [.agg (z4n na nb nc p),.agg (z0d nl t),.agg [st s],i64 now,.sl .plain ni ids.length (z6l ids)]=True:=z9La now hp h hs hi
theorem z5Aa (na nb nc nl ni:Option Bool) (p:z9n) (t:z2k) (s:List UInt8) (now:Int) (ids:List Int) (n:Nat):z0Ka.post [.agg (z4n na nb nc p),.agg (z0d nl t),.agg [st s],i64 now,.sl .plain ni n (z6l ids)]= .agg (z0d (if ids=[] then nl else none) (z0aa p now ids t s []).t++[st (z0aa p now ids t s []).s,i64 0,.sl .plain none (z0aa p now ids t s []).m.length (z6l (z0aa p now ids t s []).m),i64 (z0aa p now ids t s []).e]):=by
 show(let o:=z0aa (z69 (z4n na nb nc p)) now (z3ra (.sl .plain ni n (z6l ids))) (z7D (z0d nl t)) (gSd (.agg [st s])) [];z2a.agg (z0d (if z3ra (.sl .plain ni n (z6l ids))=[] then gNl (.agg (z0d nl t)) else none) o.t++[st o.s,i64 0,.sl .plain none o.m.length (z6l o.m),i64 o.e]))=_
 rw[z7t,z0k,z5Na,z0gb];rfl
theorem z5ma (a b c d e f a' b' c' d' e' f':z2a):splice [a,b,c,d,e,f] 0 [a',b',c',d',e',f']=[a',b',c',d',e',f']:=rfl
theorem z2Sa (a b c d e f a' b':z2a):splice [a,b,c,d,e,f] 0 [a',b']=[a',b',c,d,e,f]:=rfl
theorem z1Sa (a b c d e f c':z2a):splice [a,b,c,d,e,f] 2 [c']=[a,b,c',d,e,f]:=rfl
theorem z1mb (a b c d e f c':z2a):splice [a,b,c,d,e,f] 4 [c']=[a,b,c,d,c',f]:=rfl
theorem z6Ha (nl:Option Bool) (t:z2k):z0d nl t=[i64 t.next,.sl .plain nl t.keys.length (z1k t.keys)]:=rfl
theorem z8Db (a b c d e f a':z2a):splice [a,b,c,d,e,f] 5 [a']=[a,b,c,d,e,a']:=rfl
theorem z8Jb (E:Env) (get:Nat→z2a) (getB:Nat→Option (List z2a)) (k b:Nat) (x:Arg) (s:Nat) {id off e n:Nat} {nl:Option Bool} {pre cs rest:List z2a} (h1:arg E get x= .bp id off) (h2:get s= .oagg pre e nl n cs rest):
  eff E get getB (.storeO k b x s)={val:= .undef,sl:=[(s,.agg (pre++ .sl .plain nl n cs::rest))],bx:=[(b,some (splice (bxl getB (some b)) off (pre++ .sl (.own e) nl n cs::rest)))]}:=by
 simp only[eff,h1,h2,dem]
set_option maxHeartbeats 16000000 in
theorem z5Hb (E:Env) (h261:E.G 261=z3fa):∀ds,z0Ka.pre ds→ds.length=z7j.n∧awp E z7j.body (z2q z7j.res (z0Ka.post ds)) (z9b z7j.wr ds):=by
 rintro _ ⟨na,nb,nc,nl,ni,p,t,s,now,ids,hp,hg,hs,hi,rfl⟩
 rw[z5Aa]
 simp(maxSteps:=1000000) (disch:=first|omega|(simp;done)|(simp;omega)) [z8a,z1a,z0a,z7j,kT,kF,dT,dF,z6Ha,z5ma,z2Sa,z1Sa]
 refine z7a fun Q0 hQ0=> ?_
 refine z4f (fun a:AllS=>⟨[(0,.agg (z4n na nb nc p)),(1,.agg [i64 t.next,.sl .plain nl t.keys.length (z1k t.keys)]),(2,.agg [st s]),(3,i64 now),(4,.sl .plain ni ids.length (z6l ids))],
  [(5,.bp 5 0),(10,.bp 10 0),(11,.bp 11 0),(12,i64 a.n)],
  [(5,some (z4n na nb nc p)),(6,some [i64 t.next,.sl .plain nl t.keys.length (z1k t.keys)]),(7,some [st s]),(10,some [i64 0,.sl (.own 9) none 0 [],st [],i64 0,.sl (.own 1) none 0 [],i64 0]),
   (11,some [i64 a.t.next,.sl .plain a.nl a.t.keys.length (z1k a.t.keys),st a.s,i64 0,.sl (.own 1) none a.m.length (z6l a.m),i64 0])]⟩)
  (fun a=>ids.length-a.n) (fun a=>a.n≤ids.length∧a.m.length=a.n∧z2N a.t∧a.s.length<1000000000∧a.nl=(if a.n=0 then nl else none)∧z0aa p now ids t s []=z0aa p now (ids.drop a.n) a.t a.s a.m) ⟨0,nl,t,s,[]⟩ (by simp) ⟨Nat.zero_le _,rfl,hg,hs,rfl,rfl⟩ fun a ha=> ?_
 obtain⟨n,n',u,v,m⟩:=a
 obtain⟨h1,h2,h3,h4,h5,h6⟩:=ha
 simp only at h1 h2 h3 h4 h5 h6⊢
 rw[h6] at hQ0
 by_cases h:n<ids.length
 ·have lt:(n:Int)<ids.length:=by omega
  have hne:¬ids=[]:=by intro he;rw[he] at h;simp at h
  rw[if_neg hne] at hQ0
  have ka:=z6pa h
  have kd:ids.drop n=ids.getD n 0::ids.drop (n+1):=by rw[List.drop_eq_getElem_cons h,List.getD,List.getElem?_eq_getElem h];rfl
  rw[kd,z0aa] at hQ0 h6
  generalize ids.getD n 0=i at*
  have c1:=z7kb (na:=na) (nb:=nb) (nc:=nc) (nl:=n') now i hp h3 h4
  have c2:=z3Aa na nb nc n' p u v now i
  have hgood:=z3ca (p:=p) (s:=v) (now:=now) (i:=i) h3
  generalize z1M p u v now i=r at*
  rw[z6Ha] at c1 c2
  rw[z6Ha] at c2
  by_cases he:r.e=0
  ·rw[if_pos he] at hQ0 h6
   rw[he] at c2
   obtain⟨g1,g2⟩:=hgood he
   simp(maxSteps:=1000000) (disch:=first|omega|(simp;done)|(simp;omega)) [z8a,z1a,z0a,z8o,z8v,lt,kT,kF,dT,dF,ka,h261,c1,c2,z5ma,z8Db]
   rw[z6G]
   refine⟨by omega,?_⟩
   refine z7a fun Q1 hQ1=> ?_
   rw[z9Wa]
   refine z0ha 9 fun T hT=> ?_
   simp(maxSteps:=1000000) (disch:=first|omega|(simp;done)|(simp;omega)) [z8a,z1a,z0a,kT,kF,dT,dF,z9K]
   subst hT
   simp only[List.drop_succ_cons,List.drop_zero]
   refine z0ha 1 fun T hT=> ?_
   simp(maxSteps:=1000000) (disch:=first|omega|(simp;done)|(simp;omega)) [z8a,z1a,z0a,kT,kF,dT,dF,z9K]
   refine⟨⟨by omega,by omega⟩,?_⟩
   subst hT
   simp only[List.drop_succ_cons,List.drop_zero]
   refine z0ha 1 fun T hT=> ?_
   simp(maxSteps:=1000000) (disch:=first|omega|(simp;done)|(simp;omega)) [z8a,z1a,z0a,kT,kF,dT,dF,z2Sa,z1Sa,z1mb]
   subst hT
   simp only[List.drop_succ_cons,List.drop_zero]
   rw[z70a]
   refine⟨⟨fun s hs=> ?_,⟨by omega,⟨rfl,_,rfl,Nat.le_refl 6⟩,⟨rfl,fun c hc=> ?_⟩⟩⟩,?_⟩
   ·simp only[z7i.W,AOp.wrS,Option.toList_none,List.nil_append,List.mem_singleton] at hs
    subst hs
    rfl
   ·simp only[List.cons_append,List.nil_append,List.mem_cons,List.not_mem_nil,or_false] at hc
    rcases hc with rfl|rfl|rfl|rfl|rfl<;>exact⟨trivial,rfl⟩
   ·rw[z1fb,z8Jb (h1:=rfl) (h2:=rfl)]
    simp(maxSteps:=1000000) (disch:=first|omega|(simp;done)|(simp;omega)) [z8a,z1a,z0a,kT,kF,dT,dF,z5ma]
    rw[hQ1]
    simp(maxSteps:=1000000) (disch:=first|omega|(simp;done)|(simp;omega)) [z8a,z1a,z0a,kT,kF,dT,dF,z5ma]
    exact⟨⟨n+1,none,r.t,r.s,m++[r.id]⟩,by show ids.length-(n+1)<_;omega,⟨by show n+1≤_;omega,by simp[h2],g1,by show r.s.length<_;omega,by simp,h6⟩,by show(n:Int)+1=((n+1:Nat):Int);omega,rfl,⟨rfl,rfl,rfl⟩,rfl,by simp,rfl⟩
  ·rw[if_neg he] at hQ0
   have hb:(r.e==0)=false:=beq_false_of_ne he
   simp(maxSteps:=1000000) (disch:=first|omega|(simp;done)|(simp;omega)) [z8a,z1a,z0a,z8o,z8v,lt,kT,kF,dT,dF,ka,h261,c1,c2,z5ma,z8Db,hb,hQ0]
   exact⟨by omega,rfl⟩
 ·have lt:¬(n:Int)<ids.length:=by omega
  rw[List.drop_eq_nil_of_le (by omega),z0aa] at hQ0
  have e:n'=if ids=[] then nl else none:=by
   rw[h5]
   by_cases h0:n=0
   ·rw[if_pos h0,if_pos (List.length_eq_zero_iff.1 (by omega))]
   ·rw[if_neg h0,if_neg (fun h'=>h0 (by rw[h'] at h1;simpa using h1))]
  rw[←e] at hQ0
  simp(maxSteps:=1000000) (disch:=first|omega|(simp;done)|(simp;omega)) [z8a,z1a,z0a,z8o,z5J,lt,kT,kF,dT,dF,z5ma,hQ0]
  skip
end Go.Abs
end
