/- Lemmas: an abstract interpreter, and what the functions compute. -/
import Derived.Test.YtigghpdomoedhaaDoorR
import Derived.Test.YtigghpdomoedhaaDoorP
import Derived.Test.YtigghpdomoedhaaDoorT
set_option linter.unusedSimpArgs false
set_option linter.unusedVariables false
set_option linter.unusedSectionVars false
section
namespace Go.Abs
set_option maxRecDepth 100000
def z0ea:z4a:=⟨fun ds=>ds=[u8 7],fun _=>st v00⟩
@[simp] theorem z6oc:z0ea.pre [u8 7]=True:=eq_true rfl
@[simp] theorem z0Wa (ds:List z2a):z0ea.post ds=st v00:=rfl
theorem z0Za {i:Nat} (h:i<32) (c:UInt8):splice (bys (List.replicate i c++z9m (32-i))) i [u8 c]=bys (List.replicate (i+1) c++z9m (32-(i+1))):=by
 have e:bys (List.replicate i c++z9m (32-i))=bys (List.replicate i c)++u8 0::bys (z9m (32-(i+1))):=by
  rw[←z1a,show 32-i=(32-(i+1))+1 by omega,z9m,List.replicate_succ];rfl
 rw[e,splice,List.replicate_succ',List.append_assoc,←z1a,←z1a]
 have hl:(bys (List.replicate i c)).length=i:=by simp
 rw[List.take_append_of_le_length (by omega),List.take_of_length_le (by omega),List.drop_append,hl,List.drop_eq_nil_of_le (by simp),List.nil_append,show i+[u8 c].length-i=1 by simp]
 simp[bys]
set_option maxHeartbeats 8000000 in
theorem z6wb (E:Env):∀ds,z0ea.pre ds→ds.length=z0h.n∧awp E z0h.body (z2q z0h.res (z0ea.post ds)) (z9b z0h.wr ds):=by
 rintro _ rfl
 rw[z0Wa]
 simp(maxSteps:=1000000) (disch:=first|omega|(simp;done)|(simp;omega)) [z8a,z1a,z0a,z0h,kT,kF,dT,dF]
 refine z7a fun Q0 hQ0=> ?_
 refine z4f (fun i:Nat=>⟨[(0,u8 7)],[(3,.bv 5 1 0 32 32),(4,i64 i)],[(5,some (bys (List.replicate i 7++z9m (32-i))))]⟩) (fun i=>32-i) (fun i=>i≤32) 0 (by simp) (by omega) fun i hi=> ?_
 by_cases h:i<32
 ·have lt:(i:Int)<32:=by omega
  have vs:=z0Za h 7
  simp(maxSteps:=1000000) (disch:=first|omega|(simp;done)|(simp;omega)) [z8a,z1a,z0a,z0t,z8z,lt,kT,kF,dT,dF,vs]
  exact⟨by omega,i+1,by omega,by omega,by omega,by rw[show 32-(i+1)=31-i by omega]⟩
 ·have lt:¬(i:Int)<32:=by omega
  have e:i=32:=by omega
  subst e
  simp(maxSteps:=1000000) (disch:=first|omega|(simp;done)|(simp;omega)) [z8a,z1a,z0a,z0t,z1B,lt,kT,kF,dT,dF,hQ0]
  rfl
/-! ### few -/
theorem z9Ub {p:z9n} (h:z9zb p=true):z4Q p:=by
 simp only[z9zb,Bool.and_eq_true,decide_eq_true_eq] at h
 exact⟨by omega,by omega,by omega⟩

def z1Tb (p:z9n) (t:z2k):Bool:=z9zb p&&decide (t.keys.length≤30)&&okT t
def z8Ga:z4a:=⟨fun ds=>∃(na nb nc nl:Option Bool) (p:z9n) (t:z2k),z2la p∧z3Va p∧z3Eb t∧ds=[.agg (z4n na nb nc p),.agg (z0d nl t)],fun ds=>bo (z1Tb (z69 (gCs (nth ds 0))) (z7D (gCs (nth ds 1))))⟩
theorem z9sb {na nb nc nl:Option Bool} {p:z9n} {t:z2k} (h:z2la p) (hn:z3Va p) (ht:z3Eb t):z8Ga.pre [.agg (z4n na nb nc p),.agg (z0d nl t)]=True:=eq_true ⟨na,nb,nc,nl,p,t,h,hn,ht,rfl⟩
theorem z7Aa (na nb nc nl:Option Bool) (p:z9n) (t:z2k):z8Ga.post [.agg (z4n na nb nc p),.agg (z0d nl t)]=bo (z1Tb p t):=by
 show bo (z1Tb (z69 (z4n na nb nc p)) (z7D (z0d nl t)))=_
 rw[z7t,z0k]
set_option maxHeartbeats 8000000 in
theorem z7Pb (E:Env) (h278:E.G 278=z6Ka) (h274:E.G 274=z2Ia):∀ds,z8Ga.pre ds→ds.length=z2f.n∧awp E z2f.body (z2q z2f.res (z8Ga.post ds)) (z9b z2f.wr ds):=by
 rintro _ ⟨na,nb,nc,nl,p,t,hp,hn,ht,rfl⟩
 rw[z7Aa,z1Tb]
 have hlen:t.keys.length≤9223372036854775807:=ht.1
 have e1:=z9pb (na:=na) (nb:=nb) (nc:=nc) hp hn
 have e2:=z4kb (nl:=nl) ht
 cases hf:z9zb p with
 |false=>
  simp(maxSteps:=1000000) (disch:=first|omega|(simp;done)|(simp;omega)) [z8a,z1a,z0a,z2f,h278,e1,hf,kT,kF,dT,dF]
  skip
 |true=>
  by_cases h1:t.keys.length≤30
  ·have h1':¬(30:Int)<t.keys.length:=by omega
   rw[decide_eq_true h1]
   simp(maxSteps:=1000000) (disch:=first|omega|(simp;done)|(simp;omega)) [z8a,z1a,z0a,z2f,z2I,h278,h274,e1,e2,hf,h1,h1',kT,kF,dT,dF]
   skip
  ·have h1':(30:Int)<t.keys.length:=by omega
   rw[decide_eq_false h1]
   simp(maxSteps:=1000000) (disch:=first|omega|(simp;done)|(simp;omega)) [z8a,z1a,z0a,z2f,h278,e1,hf,h1,h1',kT,kF,dT,dF]
   skip
end Go.Abs
end

section
namespace Go.Abs
set_option maxRecDepth 100000
def z9Ia:z4a:=⟨fun ds=>ds=[],fun _=>bo true⟩
@[simp] theorem z5vc:z9Ia.pre []=True:=eq_true rfl
@[simp] theorem z8db (ds:List z2a):z9Ia.post ds=bo true:=rfl
theorem z3Nc:[st [],.sl .plain (some false) 1 [st [97],i64 25,i64 50],.sl .plain none 0 [],.sl .plain none 0 []]=z4n (some false) none none p00:=rfl
theorem z4Oc:[i64 2,.sl .plain (some false) 1 [i64 1,i64 0,st v00,i64 24,i64 10,i64 40,i64 1,i64 0,bo false]]=z0d (some false) t00:=rfl
theorem z7s {E:Env} {Q:z4m→ASt→Prop} {s:ASt} {a b:z9a} (h:∀B,B=b→awp E (.seq a B) Q s):awp E (.seq a b) Q s:=h b rfl
theorem z5Q (a b c d:z2a) (x y z:Option Bool) (p:z9n):splice [a,b,c,d] 0 (z4n x y z p)=z4n x y z p:=rfl
theorem z2Q (a b c d e f g h:z2a):splice [a,b,c,d] 0 [e,f,g,h]=[e,f,g,h]:=rfl
theorem z8Q (a b c d e f:z2a):splice [a,b,c] 0 [d,e,f]=[d,e,f]:=rfl
theorem z6E (a b c d e:z2a):splice [a,b,c,d] 1 [e]=[a,e,c,d]:=rfl
set_option maxHeartbeats 64000000 in
theorem z7Ib (E:Env) (h288:E.G 288=z0ea) (h267:E.G 267=z86) (h238:E.G 238=z3ib) (h241:E.G 241=z5Wa) (h229:E.G 229=z1ra) (h234:E.G 234=z8Ca) (h235:E.G 235=z0Rb) (h233:E.G 233=z3U):∀ds,z9Ia.pre ds→ds.length=z5f.n∧awp E z5f.body (z2q z5f.res (z9Ia.post ds)) (z9b z5f.wr ds):=by
 rintro _ rfl
 rw[z8db]
 have d0:([115]:List UInt8).length<1000000000:=by decide
 have g1:=z29b [115]
 have r0:=z5sb [115]
 have a0:=z9Ec [115]
 have hv:(drv [115] z9xa []).length=32:=z61 _ _ _
 have hs:(drv [115] z6aa []).length<1000000000:=by rw[z61];omega
 generalize drv [115] z9xa []=v at*
 generalize drv [115] z6aa []=s at*
 have k1:=z6sa (na:=some false) (nb:=none) (nc:=none) (nl:=some false) (s:=[115]) 30 1 z3ab z3Ba d0
 have k2:=z95 (some false) none none (some false) p00 t00 [115] 30 1
 have k3:=z6sa (na:=some false) (nb:=none) (nc:=none) (nl:=none) (s:=s) 30 1 z3ab g1 hs
 have k4:=z95 (some false) none none none p00 (u00 v) s 30 1
 have k5:=z6sa (na:=some false) (nb:=none) (nc:=none) (nl:=some false) (s:=s) 40 1 z3ab z3Ba hs
 have k6:=z95 (some false) none none (some false) p00 t00 s 40 1
 have n1:=z1Z (nl:=none) (t:=u00 v) 1 g1.1
 have n2:=z3I none (u00 v) 1
 have w1:=z2Mb (nl:=none) (t:=u00 v) 1 g1.1
 have w2:=z9Ra none (u00 v) 1
 have l1:=z7cb none (nl:=none) (t:=u00 v) 1 g1.1
 have l2:=z2ua none none (u00 v) 1
 have a1:=z9La (na:=some false) (nb:=none) (nc:=none) (nl:=some false) (ni:=some false) (s:=[115]) 30 (ids:=[1]) z3ab z3Ba d0 (by decide)
 have a2:=z2sa (some false) none none (some false) (some false) p00 t00 [115] 30 [1] 1
 have u1:=z24a (na:=some false) (nb:=none) (nc:=none) (nl:=some false) 30 10 z3ab z3Ba
 have u2:=z5da (some false) none none (some false) p00 t00 30 10
 rw[r0] at k2
 rw[z3Sc] at k4
 rw[z0Nc] at k6
 rw[z4fc,z37] at n2
 rw[z4Sc,z60b] at w2
 rw[z1Cb,z9Db] at l2
 rw[a0,z1Ub,if_neg (by decide)] at a2
 rw[z7Ic] at u2
 refine⟨rfl,?_⟩
 simp only[z5f]
 refine z7a fun Q9 hQ9=> ?_
 refine z7s fun B hB=> ?_
 simp(maxSteps:=1000000) (disch:=first|omega|(simp;done)|(simp;omega)) [z8a,z1a,z0a,kT]
 rw[hB];clear hB
 refine z7s fun B hB=> ?_
 simp(maxSteps:=1000000) (disch:=first|omega|(simp;done)|(simp;omega)) [z8a,z1a,z0a,z5Q,z2Q,z8Q,z6E,z0w,z1q,z1G,z3t,z6i,kT,z3Nc]
 rw[hB];clear hB
 refine z7s fun B hB=> ?_
 simp(maxSteps:=1000000) (disch:=first|omega|(simp;done)|(simp;omega)) [z8a,z1a,z0a,h288,z5Q,z2Q,z8Q,z6E,z0w,z1q,z1G,z3t,z6i,kT,z4Oc]
 rw[hB];clear hB
 refine z7s fun B hB=> ?_
 simp(maxSteps:=1000000) (disch:=first|omega|(simp;done)|(simp;omega)) [z8a,z1a,z0a,h229,k1,k2,z5Q,z2Q,z8Q,z6E,z0w,z1q,z1G,z3t,z6i,kT]
 rw[hB];clear hB
 refine z7s fun B hB=> ?_
 simp(maxSteps:=1000000) (disch:=first|omega|(simp;done)|(simp;omega)) [z8a,z1a,z0a,h233,n1,n2,z5Q,z2Q,z8Q,z6E,z0w,z1q,z1G,z3t,z6i,kT]
 rw[hB];clear hB
 refine z7s fun B hB=> ?_
 simp(maxSteps:=1000000) (disch:=first|omega|(simp;done)|(simp;omega)) [z8a,z1a,z0a,h235,w1,w2,z5Q,z2Q,z8Q,z6E,z0w,z1q,z1G,z3t,z6i,kT]
 rw[hB];clear hB
 refine z7s fun B hB=> ?_
 simp(maxSteps:=1000000) (disch:=first|omega|(simp;done)|(simp;omega)) [z8a,z1a,z0a,h234,l1,l2,z5Q,z2Q,z8Q,z6E,z0w,z1q,z1G,z3t,z6i,kT]
 rw[hB];clear hB
 refine z7s fun B hB=> ?_
 simp(maxSteps:=1000000) (disch:=first|omega|(simp;done)|(simp;omega)) [z8a,z1a,z0a,h229,k3,k4,z5Q,z2Q,z8Q,z6E,z0w,z1q,z1G,z3t,z6i,kT]
 rw[hB];clear hB
 refine z7s fun B hB=> ?_
 simp(maxSteps:=1000000) (disch:=first|omega|(simp;done)|(simp;omega)) [z8a,z1a,z0a,h229,k5,k6,z5Q,z2Q,z8Q,z6E,z0w,z1q,z1G,z3t,z6i,kT]
 rw[hB];clear hB
 refine z7s fun B hB=> ?_
 have il1:z6l [1]=[i64 1]:=rfl
 have il2:z6l [2]=[i64 2]:=rfl
 have il3:z6l [1,2]=[i64 1,i64 2]:=rfl
 rw[il1] at a2
 have a1':z3ib.pre [.agg (z4n (some false) none none p00),.agg (z0d (some false) t00),.agg [st [115]],i64 30,.sl .plain (some false) 1 [i64 1]]=True:=a1
 rw[il1] at u2
 simp(maxSteps:=1000000) (disch:=first|omega|(simp;done)|(simp;omega)) [z8a,z1a,z0a,h238,a1',a2,z5Q,z2Q,z8Q,z6E,z0w,z1q,z1G,z3t,z6i,kT]
 rw[hB];clear hB
 refine z7s fun B hB=> ?_
 simp(maxSteps:=1000000) (disch:=first|omega|(simp;done)|(simp;omega)) [z8a,z1a,z0a,h241,u1,u2,z5Q,z2Q,z8Q,z6E,z0w,z1q,z1G,z3t,z6i,kT]
 rw[hB];clear hB
 refine z7s fun B hB=> ?_
 have ul:(u00 v).keys.length=2:=rfl
 have uk:z1k (u00 v).keys=[i64 1,i64 0,st v00,i64 16,i64 10,i64 40,i64 1,i64 0,bo false,i64 2,i64 0,st v,i64 24,i64 30,i64 60,i64 2,i64 1,bo false]:=rfl
 simp(maxSteps:=1000000) (disch:=first|omega|(simp;done)|(simp;omega)) [z8a,z1a,z0a,ul,uk,kT,kF,dT,dF]
 rw[hB,z7y];clear hB
 refine z7s fun B hB=> ?_
 simp(maxSteps:=1000000) (disch:=first|omega|(simp;done)|(simp;omega)) [z8a,z1a,z0a,ul,uk,z5Q,z2Q,z8Q,z6E,z0w,z1q,z1G,z7ya,z3t,z6i,kT,kF,dT,dF]
 rw[hB];clear hB
 refine z7s fun B hB=> ?_
 simp(maxSteps:=1000000) (disch:=first|omega|(simp;done)|(simp;omega)) [z8a,z1a,z0a,ul,uk,z5Q,z2Q,z8Q,z6E,z0w,z1q,z1G,z7ya,z3t,z6i,kT,kF,dT,dF]
 rw[hB];clear hB
 have sm1:z86.pre [.sl .plain none 2 [i64 1,i64 2],.sl .plain (some false) 2 [i64 1,i64 2]]=True:=z44 (l:=[1,2]) (by decide)
 have sm2:z86.pre [.sl .plain none 1 [i64 2],.sl .plain (some false) 1 [i64 2]]=True:=z44 (l:=[2]) (by decide)
 have sm3:z86.pre [.sl .plain none 1 [i64 1],.sl .plain (some false) 1 [i64 1]]=True:=z44 (l:=[1]) (by decide)
 have ek:z7P [.int .i64,.int .i64,.str,.int .i64,.int .i64,.int .i64,.int .i64,.int .i64,.bool] [i64 2,i64 0,st [],i64 24,i64 30,i64 60,i64 2,i64 1,bo false] [i64 2,i64 0,st [],i64 24,i64 30,i64 60,i64 2,i64 1,bo false]=true:=z6Qa (k02 [])
 have ok:z7v [.int .i64,.int .i64,.str,.int .i64,.int .i64,.int .i64,.int .i64,.int .i64,.bool] [i64 2,i64 0,st [],i64 24,i64 30,i64 60,i64 2,i64 1,bo false]:=z7Ca (k02 [])
 simp(maxSteps:=20000000) (disch:=first|omega|(simp;done)|(simp;omega)) [z8a,z1a,z0a,h267,sm1,sm2,sm3,il1,il2,il3,ul,uk,hv,ek,ok,z5Q,z2Q,z8Q,z6E,z0w,z1q,z1G,z7ya,z3t,z6i,kT,kF,dT,dF,hQ9]
end Go.Abs
end
