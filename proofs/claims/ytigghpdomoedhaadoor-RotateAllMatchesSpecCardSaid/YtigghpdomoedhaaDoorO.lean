/- Lemmas: an abstract interpreter, and what the functions compute. -/
import Derived.Test.YtigghpdomoedhaaDoorL
import Derived.Test.YtigghpdomoedhaaDoorT
import Derived.Test.YtigghpdomoedhaaDoorM
import Derived.Test.YtigghpdomoedhaaDoorN
set_option linter.unusedSimpArgs false
set_option linter.unusedVariables false
set_option linter.unusedSectionVars false
section
namespace Go.Abs
set_option maxRecDepth 100000
def z8kb (n:Nat):Prop:=n≤9223372036854775807
def z3Eb (t:z2k):Prop:=z8kb t.keys.length∧z1n t.next∧∀k∈t.keys,kOk k
def z2Ia:z4a:=⟨fun ds=>∃(nl:Option Bool) (t:z2k),z3Eb t∧ds=[.agg (z0d nl t)],fun ds=>bo (okT (z7D (gCs (nth ds 0))))⟩
theorem z4kb {nl:Option Bool} {t:z2k} (h:z3Eb t):z2Ia.pre [.agg (z0d nl t)]=True:=eq_true ⟨nl,t,h,rfl⟩
@[simp] theorem z0ab (nl:Option Bool) (t:z2k):z2Ia.post [.agg (z0d nl t)]=bo (okT t):=by
 show bo (okT (z7D (z0d nl t)))=_
 rw[z0k]
def z9Ga (l:List z2d) (n:Nat):Int:=if n=0 then 0 else(z3g l (n-1)).id
set_option maxHeartbeats 8000000 in
theorem z0Pb (E:Env) (h272:E.G 272=z56) (h273:E.G 273=z8Ja):∀ds,z2Ia.pre ds→ds.length=z4c.n∧awp E z4c.body (z2q z4c.res (z2Ia.post ds)) (z9b z4c.wr ds):=by
 rintro _ ⟨nl,t,⟨hl,hi,hk⟩,rfl⟩
 rw[z0ab,okT]
 have hlen:t.keys.length≤9223372036854775807:=hl
 by_cases h1:t.keys.length≤4096
 ·have h1':¬(4096:Int)<t.keys.length:=by omega
  cases h2:inB t.next 1 2147483647 with
  |false=>
   have e2:decide (1≤t.next∧t.next≤z7N)=false:=by
    rw[←h2,inB,Bool.decide_and];rfl
   rw[e2]
   simp(maxSteps:=1000000) (disch:=first|omega|(simp;done)|(simp;omega)) [z8a,z1a,z0a,z4c,h272,h1,h1',h2,kT,kF,dT,dF]
  |true=>
   have e2:decide (1≤t.next∧t.next≤z7N)=true:=by
    rw[←h2,inB,Bool.decide_and];rfl
   rw[e2,decide_eq_true h1]
   simp(maxSteps:=1000000) (disch:=first|omega|(simp;done)|(simp;omega)) [z8a,z1a,z0a,z4c,z2v,h272,h1,h1',h2,kT,kF,dT,dF]
   refine z7a fun Q0 hQ0=> ?_
   refine z4f (fun n:Nat=>⟨[(0,.agg (z0d nl t))],[(1,.bp 1 0),(3,i64 (z9Ga t.keys n)),(4,i64 n)],[(1,some (z0d nl t))]⟩) (fun n=>t.keys.length-n) (fun n=>n≤t.keys.length∧okL t.next 0 t.keys=okL t.next (z9Ga t.keys n) (t.keys.drop n)) 0 (by simp[z9Ga]) ⟨by omega,by simp[z9Ga]⟩ fun n hn=> ?_
   obtain⟨hn,ho⟩:=hn
   rw[ho] at hQ0
   by_cases h:n<t.keys.length
   ·have lt:(n:Int)<t.keys.length:=by omega
    have ka:=z2F h
    have kd:t.keys.drop n=z3g t.keys n::t.keys.drop (n+1):=by rw[List.drop_eq_getElem_cons h,z0Y h]
    have kl:z9Ga t.keys (n+1)=(z3g t.keys n).id:=by simp[z9Ga]
    have hko:=hk _ (z5ea h)
    rw[kd,okL] at ho hQ0
    have e1:=z2ka hko
    have e3:=z9S (z3g t.keys n)
    generalize z3g t.keys n=k at*
    generalize z9Ga t.keys n=la at*
    cases b1:okK k with
    |false=>
     rw[b1] at e3 hQ0
     simp(maxSteps:=1000000) (disch:=first|omega|(simp;done)|(simp;omega)) [z8a,z1a,z0a,z3d,z8e,h273,lt,kT,kF,dT,dF,ka,z6i,e1,e3,hQ0]
     omega
    |true=>
     rw[b1] at e3 hQ0 ho
     by_cases b2:la<k.id
     ·by_cases b3:k.id<t.next
      ·by_cases b4:k.par<t.next
       ·simp only[b2,b3,b4,decide_true,Bool.true_and] at hQ0 ho
        simp(maxSteps:=1000000) (disch:=first|omega|(simp;done)|(simp;omega)) [z8a,z1a,z0a,z3d,z8e,h273,lt,kT,kF,dT,dF,ka,z6i,e1,e3,hQ0,b2,b3,b4]
        exact⟨by omega,n+1,by omega,⟨by omega,by rw[kl];exact ho⟩,kl.symm,by omega⟩
       ·simp only[b4,decide_false,Bool.and_false,Bool.false_and] at hQ0
        simp(maxSteps:=1000000) (disch:=first|omega|(simp;done)|(simp;omega)) [z8a,z1a,z0a,z3d,z8e,h273,lt,kT,kF,dT,dF,ka,z6i,e1,e3,hQ0,b2,b3,b4]
        omega
      ·simp only[b3,decide_false,Bool.and_false,Bool.false_and] at hQ0
       simp(maxSteps:=1000000) (disch:=first|omega|(simp;done)|(simp;omega)) [z8a,z1a,z0a,z3d,z8e,h273,lt,kT,kF,dT,dF,ka,z6i,e1,e3,hQ0,b2,b3]
       omega
     ·simp only[b2,decide_false,Bool.and_false,Bool.false_and] at hQ0
      simp(maxSteps:=1000000) (disch:=first|omega|(simp;done)|(simp;omega)) [z8a,z1a,z0a,z3d,z8e,h273,lt,kT,kF,dT,dF,ka,z6i,e1,e3,hQ0,b2]
      omega
   ·have lt:¬(n:Int)<t.keys.length:=by omega
    rw[List.drop_eq_nil_of_le (by omega),okL] at hQ0
    simp(maxSteps:=1000000) (disch:=first|omega|(simp;done)|(simp;omega)) [z8a,z1a,z0a,z3d,z0v,lt,kT,kF,dT,dF,hQ0]
    skip
 ·have h1':(4096:Int)<t.keys.length:=by omega
  rw[decide_eq_false h1]
  simp(maxSteps:=1000000) (disch:=first|omega|(simp;done)|(simp;omega)) [z8a,z1a,z0a,z4c,h1,h1',kT,kF,dT,dF]
end Go.Abs
end

section
namespace Go.Abs
set_option maxRecDepth 100000
def z7xa:z4a:=⟨fun ds=>∃(na nb:Option Bool) (t:z2k),z90a t.keys∧ds=[.agg (z0d na t),.agg (z0d nb t)],fun _=>bo true⟩
theorem z5kb {na nb:Option Bool} {t:z2k} (h:z90a t.keys):z7xa.pre [.agg (z0d na t),.agg (z0d nb t)]=True:=eq_true ⟨na,nb,t,h,rfl⟩
@[simp] theorem z1bb (ds:List z2a):z7xa.post ds=bo true:=rfl
def ksK:List LK:=[.int .i64,.int .i64,.str,.int .i64,.int .i64,.int .i64,.int .i64,.int .i64,.bool]
theorem z6Qa (k:z2d):z7P ksK (z3j k) (z3j k)=true:=by simp[ksK,z3j,z7P,z7Hc]
theorem z7Ca (k:z2d):z7v ksK (z3j k):=⟨rfl,rfl,trivial,rfl,rfl,rfl,rfl,rfl,trivial,trivial⟩
set_option maxHeartbeats 8000000 in
theorem z0Qb (E:Env):∀ds,z7xa.pre ds→ds.length=z2i.n∧awp E z2i.body (z2q z2i.res (z7xa.post ds)) (z9b z2i.wr ds):=by
 rintro _ ⟨na,nb,t,hl,rfl⟩
 rw[z1bb]
 have hlen:t.keys.length≤100000000:=hl
 simp(maxSteps:=1000000) (disch:=first|omega|(simp;done)|(simp;omega)) [z8a,z1a,z0a,z2i,z5C,kT,kF,dT,dF]
 refine z7a fun Q0 hQ0=> ?_
 refine z4f (fun n:Nat=>⟨[(0,.agg (z0d na t)),(1,.agg (z0d nb t))],[(2,.bp 2 0),(3,.bp 3 0),(5,i64 n)],[(2,some (z0d na t)),(3,some (z0d nb t))]⟩) (fun n=>t.keys.length-n) (fun n=>n≤t.keys.length) 0 (by simp) (by omega) fun n hn=> ?_
 by_cases h:n<t.keys.length
 ·have lt:(n:Int)<t.keys.length:=by omega
  have ka:=z2F h
  generalize z3g t.keys n=k at*
  have ek:=z6Qa k
  have ok:=z7Ca k
  unfold ksK at ek ok
  simp(maxSteps:=1000000) (disch:=first|omega|(simp;done)|(simp;omega)) [z8a,z1a,z0a,z0u,z1D,lt,kT,kF,dT,dF,ka,ek,ok]
  exact⟨by omega,n+1,by omega,by omega,by omega⟩
 ·have lt:¬(n:Int)<t.keys.length:=by omega
  simp(maxSteps:=1000000) (disch:=first|omega|(simp;done)|(simp;omega)) [z8a,z1a,z0a,z0u,z2C,lt,kT,kF,dT,dF,hQ0]
  skip
def z86:z4a:=⟨fun ds=>∃(na nb:Option Bool) (l:List Int),l.length≤100000000∧ds=[.sl .plain na l.length (z6l l),.sl .plain nb l.length (z6l l)],fun _=>bo true⟩
theorem z44 {na nb:Option Bool} {l:List Int} (h:l.length≤100000000):z86.pre [.sl .plain na l.length (z6l l),.sl .plain nb l.length (z6l l)]=True:=eq_true ⟨na,nb,l,h,rfl⟩
@[simp] theorem z65a (ds:List z2a):z86.post ds=bo true:=rfl
theorem z6pa {l:List Int} {n:Nat} (h:n<l.length):hdA ((z6l l).drop n)=i64 (l.getD n 0):=by
 rw[List.drop_eq_getElem_cons (by simpa using h),List.getD,List.getElem?_eq_getElem h]
 simp[z6l,hdA]
set_option maxHeartbeats 8000000 in
theorem z9Hb (E:Env):∀ds,z86.pre ds→ds.length=z0i.n∧awp E z0i.body (z2q z0i.res (z86.post ds)) (z9b z0i.wr ds):=by
 rintro _ ⟨na,nb,l,hl,rfl⟩
 rw[z65a]
 simp(maxSteps:=1000000) (disch:=first|omega|(simp;done)|(simp;omega)) [z8a,z1a,z0a,z0i,z1C,kT,kF,dT,dF]
 refine z7a fun Q0 hQ0=> ?_
 refine z4f (fun n:Nat=>⟨[(0,.sl .plain na l.length (z6l l)),(1,.sl .plain nb l.length (z6l l))],[(5,i64 n)],[]⟩) (fun n=>l.length-n) (fun n=>n≤l.length) 0 (by simp) (by omega) fun n hn=> ?_
 by_cases h:n<l.length
 ·have lt:(n:Int)<l.length:=by omega
  have ka:=z6pa h
  generalize l.getD n 0=k at*
  simp(maxSteps:=1000000) (disch:=first|omega|(simp;done)|(simp;omega)) [z8a,z1a,z0a,z2u,z9C,lt,kT,kF,dT,dF,ka]
  exact⟨by omega,n+1,by omega,by omega,by omega⟩
 ·have lt:¬(n:Int)<l.length:=by omega
  simp(maxSteps:=1000000) (disch:=first|omega|(simp;done)|(simp;omega)) [z8a,z1a,z0a,z2u,z0C,lt,kT,kF,dT,dF,hQ0]
  skip
/-! ### Small policies -/
def z9zb (p:z9n):Bool:=decide (p.types.length≤40)&&decide (p.rules.length≤100)&&decide (p.quos.length≤40)&&p.types.all fun t=>decide (t.name.length≤40)
def z3Va (p:z9n):Prop:=∀t∈p.types,t.name.length≤9223372036854775807
def z2la (p:z9n):Prop:=z8kb p.types.length∧z8kb p.rules.length∧z8kb p.quos.length
def z6Ka:z4a:=⟨fun ds=>∃(na nb nc:Option Bool) (p:z9n),z2la p∧z3Va p∧ds=[.agg (z4n na nb nc p)],fun ds=>bo (z9zb (z69 (gCs (nth ds 0))))⟩
theorem z9pb {na nb nc:Option Bool} {p:z9n} (h:z2la p) (hn:z3Va p):z6Ka.pre [.agg (z4n na nb nc p)]=True:=eq_true ⟨na,nb,nc,p,h,hn,rfl⟩
@[simp] theorem z44a (na nb nc:Option Bool) (p:z9n):z6Ka.post [.agg (z4n na nb nc p)]=bo (z9zb p):=by
 show bo (z9zb (z69 (z4n na nb nc p)))=_
 rw[z7t]
theorem z7lb {l:List z57a} {i:Nat} (h:i<l.length):hdA ((z5aa l).drop (i*3))=st (l.getD i ⟨[],0,0⟩).name:=by
 rw[z5aa,z8W (w:=3) (enc:=z7sb) (fun _=>rfl),List.drop_eq_getElem_cons h,List.flatMap_cons,List.getD,List.getElem?_eq_getElem h];rfl
set_option maxHeartbeats 8000000 in
theorem z6Ob (E:Env):∀ds,z6Ka.pre ds→ds.length=z7e.n∧awp E z7e.body (z2q z7e.res (z6Ka.post ds)) (z9b z7e.wr ds):=by
 rintro _ ⟨na,nb,nc,p,⟨hp1,hp2,hp3⟩,hn,rfl⟩
 unfold z8kb at hp1 hp2 hp3
 rw[z44a,z9zb]
 by_cases h1:p.types.length≤40
 ·have h1':¬(40:Int)<p.types.length:=by omega
  by_cases h2:p.rules.length≤100
  ·have h2':¬(100:Int)<p.rules.length:=by omega
   by_cases h3:p.quos.length≤40
   ·have h3':¬(40:Int)<p.quos.length:=by omega
    rw[decide_eq_true h1,decide_eq_true h2,decide_eq_true h3]
    simp(maxSteps:=1000000) (disch:=first|omega|(simp;done)|(simp;omega)) [z8a,z1a,z0a,z7e,z2G,h1,h1',h2,h2',h3,h3',kT,kF,dT,dF]
    refine z7a fun Q0 hQ0=> ?_
    refine z4f (fun n:Nat=>⟨[(0,.agg (z4n na nb nc p))],[(1,.bp 1 0),(3,i64 n)],[(1,some (z4n na nb nc p))]⟩) (fun n=>p.types.length-n) (fun n=>n≤p.types.length∧(p.types.all fun t=>decide (t.name.length≤40))=((p.types.drop n).all fun t=>decide (t.name.length≤40))) 0 (by simp) ⟨by omega,by simp⟩ fun n hn'=> ?_
    obtain⟨hn',ha⟩:=hn'
    by_cases h:n<p.types.length
    ·have lt:(n:Int)<p.types.length:=by omega
     have f0:=z7lb h
     have kd:p.types.drop n=p.types.getD n ⟨[],0,0⟩::p.types.drop (n+1):=by rw[List.drop_eq_getElem_cons h,List.getD,List.getElem?_eq_getElem h];rfl
     have hno:=hn (p.types.getD n ⟨[],0,0⟩) (by rw[List.getD,List.getElem?_eq_getElem h];exact List.getElem_mem h)
     rw[kd,List.all_cons] at ha
     generalize p.types.getD n ⟨[],0,0⟩=ty at*
     by_cases c:ty.name.length≤40
     ·have c':¬(40:Int)<ty.name.length:=by omega
      rw[decide_eq_true c,Bool.true_and] at ha
      simp(maxSteps:=1000000) (disch:=first|omega|(simp;done)|(simp;omega)) [z8a,z1a,z0a,z5p,z1w,lt,kT,kF,dT,dF,f0,c']
      exact⟨by omega,n+1,by omega,⟨by omega,ha⟩,by omega⟩
     ·have c':(40:Int)<ty.name.length:=by omega
      rw[decide_eq_false c,Bool.false_and] at ha
      simp(maxSteps:=1000000) (disch:=first|omega|(simp;done)|(simp;omega)) [z8a,z1a,z0a,z5p,z1w,lt,kT,kF,dT,dF,f0,c',hQ0,ha]
      omega
    ·have lt:¬(n:Int)<p.types.length:=by omega
     rw[List.drop_eq_nil_of_le (by omega),List.all_nil] at ha
     simp(maxSteps:=1000000) (disch:=first|omega|(simp;done)|(simp;omega)) [z8a,z1a,z0a,z5p,z7H,lt,kT,kF,dT,dF,hQ0,ha]
     skip
   ·have h3':(40:Int)<p.quos.length:=by omega
    rw[decide_eq_false h3]
    simp(maxSteps:=1000000) (disch:=first|omega|(simp;done)|(simp;omega)) [z8a,z1a,z0a,z7e,h1,h1',h2,h2',h3,h3',kT,kF,dT,dF]
  ·have h2':(100:Int)<p.rules.length:=by omega
   rw[decide_eq_false h2]
   simp(maxSteps:=1000000) (disch:=first|omega|(simp;done)|(simp;omega)) [z8a,z1a,z0a,z7e,h1,h1',h2,h2',kT,kF,dT,dF]
 ·have h1':(40:Int)<p.types.length:=by omega
  rw[decide_eq_false h1]
  simp(maxSteps:=1000000) (disch:=first|omega|(simp;done)|(simp;omega)) [z8a,z1a,z0a,z7e,h1,h1',kT,kF,dT,dF]
end Go.Abs
end

section
namespace Go.Abs
set_option maxRecDepth 100000
def z2N (t:z2k):Prop:=z9pa t∧z3Eb t
def z2tc (p:z9n) (l:List z2d) (now i:Int) (k:z2d):Int:=
 if z4T k now=true then(if(z1R l i).isSome=true then 12 else if z0Ga p k.ty 1=true then(if z7ea k.uses (z3ba p k.ty)=true then(if k.ver=z7N then 2 else 0) else 10) else 10) else 13
def z36 (p:z9n) (l:List z2d) (now i:Int):Int:=
 if now<0 then 1 else if now<z30 then(match z80 l i with|none=>11|some k=>z2tc p l now i k) else 1
def ckK (l:List z2d) (now i:Int):z2d:=if now<0 then z8Sb else if now<z30 then(z80 l i).getD z8Sb else z8Sb
def z8Eb:z4a:=⟨fun ds=>∃(na nb nc nl:Option Bool) (p:z9n) (t:z2k) (now i:Int),z4Q p∧z2N t∧ds=[.agg (z4n na nb nc p),.agg (z0d nl t),i64 now,i64 i],
 fun ds=>i64 (z36 (z69 (gCs (nth ds 0))) (z7D (gCs (nth ds 1))).keys (asI (nth ds 2)) (asI (nth ds 3)))⟩
theorem z9Xb {na nb nc nl:Option Bool} {p:z9n} {t:z2k} (now i:Int) (hp:z4Q p) (h:z2N t):z8Eb.pre [.agg (z4n na nb nc p),.agg (z0d nl t),i64 now,i64 i]=True:=eq_true ⟨na,nb,nc,nl,p,t,now,i,hp,h,rfl⟩
theorem z0Pa (na nb nc nl:Option Bool) (p:z9n) (t:z2k) (now i:Int):z8Eb.post [.agg (z4n na nb nc p),.agg (z0d nl t),i64 now,i64 i]=i64 (z36 p t.keys now i):=by
 show i64 (z36 (z69 (z4n na nb nc p)) (z7D (z0d nl t)).keys now i)=_
 rw[z7t,z0k]
def ckC:z4a:=⟨z8Eb.pre,fun ds=> .tup [.agg (z3j (ckK (z7D (gCs (nth ds 1))).keys (asI (nth ds 2)) (asI (nth ds 3)))),i64 (z36 (z69 (gCs (nth ds 0))) (z7D (gCs (nth ds 1))).keys (asI (nth ds 2)) (asI (nth ds 3)))]⟩
theorem z2fc {na nb nc nl:Option Bool} {p:z9n} {t:z2k} (now i:Int) (hp:z4Q p) (h:z2N t):ckC.pre [.agg (z4n na nb nc p),.agg (z0d nl t),i64 now,i64 i]=True:=eq_true ⟨na,nb,nc,nl,p,t,now,i,hp,h,rfl⟩
theorem z6db (na nb nc nl:Option Bool) (p:z9n) (t:z2k) (now i:Int):ckC.post [.agg (z4n na nb nc p),.agg (z0d nl t),i64 now,i64 i]= .tup [.agg (z3j (ckK t.keys now i)),i64 (z36 p t.keys now i)]:=by
 show z2a.tup [.agg (z3j (ckK (z7D (z0d nl t)).keys now i)),i64 (z36 (z69 (z4n na nb nc p)) (z7D (z0d nl t)).keys now i)]=_
 rw[z7t,z0k]
set_option maxHeartbeats 16000000 in
theorem z6qb (E:Env) (h230:E.G 230=z0Fa) (h239:E.G 239=z14) (h240:E.G 240=z4Qa) (h245:E.G 245=z34) (h244:E.G 244=z01a) (h233:E.G 233=z3U):∀ds,ckC.pre ds→ds.length=z4d.n∧awp E z4d.body (z2q z4d.res (ckC.post ds)) (z9b z4d.wr ds):=by
 rintro _ ⟨na,nb,nc,nl,p,t,now,i,hp,⟨hv,ha⟩,rfl⟩
 rw[z6db,ckK,z36]
 obtain⟨tk,hl,_,hk⟩:=z8q hv
 by_cases h0:now<0
 ·rw[if_pos h0,if_pos h0]
  simp(maxSteps:=1000000) (disch:=first|omega|(simp;done)|(simp;omega)) [z8a,z1a,z0a,z4d,h0,kT,kF,dT,dF,z8k,z1r]
  skip
 by_cases h1:now<z30
 ·have h1':now<1099511627776:=h1
  rw[if_neg h0,if_neg h0,if_pos h1,if_pos h1]
  have e1:=z57 (nl:=nl) (t:=t) i tk
  have e2:=z7O nl t i
  have f1:=z1Z (nl:=nl) (t:=t) i hv
  have f2:=z3I nl t i
  cases hg:z80 t.keys i with
  |none=>
   have hn:z1R t.keys i=none:=by rw[z1R,hg];rfl
   rw[hg,z8va] at e2
   rw[hn,z37] at f2
   simp(maxSteps:=1000000) (disch:=first|omega|(simp;done)|(simp;omega)) [z8a,z1a,z0a,z4d,z8i,h230,h233,e1,e2,f1,f2,h0,h1',kT,kF,dT,dF,z8k,z1r,z6i]
   skip
  |some k=>
   have hko:=ha.2.2 k (z4K hg)
   rw[hg,z8va] at e2
   have l1:=z7da now hko
   have l2:=z7R k now
   have m1:=z0va (na:=na) (nb:=nb) (nc:=nc) (f:=1) hp hko.2.1 ⟨by omega,by omega⟩
   have u1:=z7gb (na:=na) (nb:=nb) (nc:=nc) hp hko.2.1
   have s1:=z4ca (b:=z3ba p k.ty) hko.2.2.2.1
   simp only[z2tc,Option.getD_some]
   cases hli:z4T k now with
   |false=>
    cases hn:z1R t.keys i with
    |none=>
     rw[hn,z37] at f2
     simp(maxSteps:=1000000) (disch:=first|omega|(simp;done)|(simp;omega)) [z8a,z1a,z0a,z4d,z8i,h230,h233,h239,e1,e2,f1,f2,l1,l2,hli,h0,h1',kT,kF,dT,dF,z8k,z1r,z6i]
     skip
    |some j=>
     rw[hn,z37] at f2
     simp(maxSteps:=1000000) (disch:=first|omega|(simp;done)|(simp;omega)) [z8a,z1a,z0a,z4d,z8i,h230,h233,h239,e1,e2,f1,f2,l1,l2,hli,h0,h1',kT,kF,dT,dF,z8k,z1r,z6i]
     skip
   |true=>
    cases hn:z1R t.keys i with
    |some j=>
     rw[hn,z37] at f2
     simp(maxSteps:=1000000) (disch:=first|omega|(simp;done)|(simp;omega)) [z8a,z1a,z0a,z4d,z8i,h230,h233,h239,e1,e2,f1,f2,l1,l2,hli,h0,h1',kT,kF,dT,dF,z8k,z1r,z6i]
     skip
    |none=>
     rw[hn,z37] at f2
     cases hh:z0Ga p k.ty 1 with
     |false=>
      simp(maxSteps:=1000000) (disch:=first|omega|(simp;done)|(simp;omega)) [z8a,z1a,z0a,z4d,z8i,h240,m1,hh,h230,h233,h239,e1,e2,f1,f2,l1,l2,hli,h0,h1',kT,kF,dT,dF,z8k,z1r,z6i]
      skip
     |true=>
      cases hs:z7ea k.uses (z3ba p k.ty) with
      |false=>
       simp(maxSteps:=1000000) (disch:=first|omega|(simp;done)|(simp;omega)) [z8a,z1a,z0a,z4d,z8i,h240,h244,h245,m1,u1,s1,hh,hs,h230,h233,h239,e1,e2,f1,f2,l1,l2,hli,h0,h1',kT,kF,dT,dF,z8k,z1r,z6i]
       skip
      |true=>
       by_cases hv:k.ver=z7N
       ·have hv':k.ver=2147483647:=hv
        simp(maxSteps:=1000000) (disch:=first|omega|(simp;done)|(simp;omega)) [z8a,z1a,z0a,z4d,z8i,h240,h244,h245,m1,u1,s1,hh,hs,hv',z7N,h230,h233,h239,e1,e2,f1,f2,l1,l2,hli,h0,h1',kT,kF,dT,dF,z8k,z1r,z6i]
        skip
       ·have hv':(k.ver==2147483647)=false:=beq_false_of_ne hv
        simp(maxSteps:=1000000) (disch:=first|omega|(simp;done)|(simp;omega)) [z8a,z1a,z0a,z4d,z8i,z9R,h240,h244,h245,m1,u1,s1,hh,hs,hv',hv,h230,h233,h239,e1,e2,f1,f2,l1,l2,hli,h0,h1',kT,kF,dT,dF,z8k,z1r,z6i]
        skip
 ·have h1':¬now<1099511627776:=h1
  rw[if_neg h0,if_neg h0,if_neg h1,if_neg h1]
  simp(maxSteps:=1000000) (disch:=first|omega|(simp;done)|(simp;omega)) [z8a,z1a,z0a,z4d,h0,h1',kT,kF,dT,dF,z8k,z1r]
  skip
end Go.Abs
end

section
namespace Go.Abs
set_option maxRecDepth 100000
set_option maxHeartbeats 16000000 in
theorem z7Hb (E:Env) (h258:E.G 258=z0Fa) (h269:E.G 269=z14) (h270:E.G 270=z4Qa) (h275:E.G 275=z34) (h277:E.G 277=z01a) (h264:E.G 264=z3U):∀ds,z8Eb.pre ds→ds.length=z6b.n∧awp E z6b.body (z2q z6b.res (z8Eb.post ds)) (z9b z6b.wr ds):=by
 rintro _ ⟨na,nb,nc,nl,p,t,now,i,hp,⟨hv,ha⟩,rfl⟩
 rw[z0Pa,z36]
 obtain⟨tk,hl,_,hk⟩:=z8q hv
 by_cases h0:now<0
 ·rw[if_pos h0]
  simp(maxSteps:=1000000) (disch:=first|omega|(simp;done)|(simp;omega)) [z8a,z1a,z0a,z6b,h0,kT,kF,dT,dF,z8k,z1r]
  skip
 by_cases h1:now<z30
 ·have h1':now<1099511627776:=h1
  rw[if_neg h0,if_pos h1]
  have e1:=z57 (nl:=nl) (t:=t) i tk
  have e2:=z7O nl t i
  have f1:=z1Z (nl:=nl) (t:=t) i hv
  have f2:=z3I nl t i
  cases hg:z80 t.keys i with
  |none=>
   have hn:z1R t.keys i=none:=by rw[z1R,hg];rfl
   rw[hg,z8va] at e2
   rw[hn,z37] at f2
   simp(maxSteps:=1000000) (disch:=first|omega|(simp;done)|(simp;omega)) [z8a,z1a,z0a,z6b,z9d,z2e,z1e,z4e,z0e,h258,h264,e1,e2,f1,f2,h0,h1',kT,kF,dT,dF,z8k,z1r,z6i]
   skip
  |some k=>
   have hko:=ha.2.2 k (z4K hg)
   rw[hg,z8va] at e2
   have l1:=z7da now hko
   have l2:=z7R k now
   have m1:=z0va (na:=na) (nb:=nb) (nc:=nc) (f:=1) hp hko.2.1 ⟨by omega,by omega⟩
   have u1:=z7gb (na:=na) (nb:=nb) (nc:=nc) hp hko.2.1
   have s1:=z4ca (b:=z3ba p k.ty) hko.2.2.2.1
   simp only[z2tc]
   cases hli:z4T k now with
   |false=>
    cases hn:z1R t.keys i with
    |none=>
     rw[hn,z37] at f2
     simp(maxSteps:=1000000) (disch:=first|omega|(simp;done)|(simp;omega)) [z8a,z1a,z0a,z6b,z9d,z2e,z1e,z4e,z0e,h258,h264,h269,e1,e2,f1,f2,l1,l2,hli,h0,h1',kT,kF,dT,dF,z8k,z1r,z6i]
     skip
    |some j=>
     rw[hn,z37] at f2
     simp(maxSteps:=1000000) (disch:=first|omega|(simp;done)|(simp;omega)) [z8a,z1a,z0a,z6b,z9d,z2e,z1e,z4e,z0e,h258,h264,h269,e1,e2,f1,f2,l1,l2,hli,h0,h1',kT,kF,dT,dF,z8k,z1r,z6i]
     skip
   |true=>
    cases hn:z1R t.keys i with
    |some j=>
     rw[hn,z37] at f2
     simp(maxSteps:=1000000) (disch:=first|omega|(simp;done)|(simp;omega)) [z8a,z1a,z0a,z6b,z9d,z2e,z1e,z4e,z0e,h258,h264,h269,e1,e2,f1,f2,l1,l2,hli,h0,h1',kT,kF,dT,dF,z8k,z1r,z6i]
     skip
    |none=>
     rw[hn,z37] at f2
     cases hh:z0Ga p k.ty 1 with
     |false=>
      simp(maxSteps:=1000000) (disch:=first|omega|(simp;done)|(simp;omega)) [z8a,z1a,z0a,z6b,z9d,z2e,z1e,z4e,z0e,h270,h277,h275,m1,u1,s1,hh,h258,h264,h269,e1,e2,f1,f2,l1,l2,hli,h0,h1',kT,kF,dT,dF,z8k,z1r,z6i]
      skip
     |true=>
      cases hs:z7ea k.uses (z3ba p k.ty) with
      |false=>
       simp(maxSteps:=1000000) (disch:=first|omega|(simp;done)|(simp;omega)) [z8a,z1a,z0a,z6b,z9d,z2e,z1e,z4e,z0e,h270,h277,h275,m1,u1,s1,hh,hs,h258,h264,h269,e1,e2,f1,f2,l1,l2,hli,h0,h1',kT,kF,dT,dF,z8k,z1r,z6i]
       skip
      |true=>
       by_cases hv:k.ver=z7N
       ·have hv':k.ver=2147483647:=hv
        simp(maxSteps:=1000000) (disch:=first|omega|(simp;done)|(simp;omega)) [z8a,z1a,z0a,z6b,z9d,z2e,z1e,z4e,z0e,h270,h277,h275,m1,u1,s1,hh,hs,hv',z7N,h258,h264,h269,e1,e2,f1,f2,l1,l2,hli,h0,h1',kT,kF,dT,dF,z8k,z1r,z6i]
        skip
       ·have hv':(k.ver==2147483647)=false:=beq_false_of_ne hv
        simp(maxSteps:=1000000) (disch:=first|omega|(simp;done)|(simp;omega)) [z8a,z1a,z0a,z6b,z9d,z2e,z1e,z4e,z0e,z8C,h270,h277,h275,m1,u1,s1,hh,hs,hv',hv,h258,h264,h269,e1,e2,f1,f2,l1,l2,hli,h0,h1',kT,kF,dT,dF,z8k,z1r,z6i]
        skip
 ·have h1':¬now<1099511627776:=h1
  rw[if_neg h0,if_neg h1]
  simp(maxSteps:=1000000) (disch:=first|omega|(simp;done)|(simp;omega)) [z8a,z1a,z0a,z6b,h0,h1',kT,kF,dT,dF,z8k,z1r]
  skip

end Go.Abs
end
