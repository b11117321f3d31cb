/- Lemmas: an abstract interpreter, and what the functions compute. -/
import Derived.Test.YtigghpdomoedhaaDoorL
import Derived.Test.YtigghpdomoedhaaDoorT
set_option linter.unusedSimpArgs false
set_option linter.unusedVariables false
set_option linter.unusedSectionVars false
section
namespace Go.Abs
def orI (x y:Int):Int:=W (BitVec.ofInt 64 x|||BitVec.ofInt 64 y).toNat
@[simp] theorem z6Zb (x y:Int):z9y .or (i64 x) (i64 y)=i64 (orI x y):=rfl
theorem z06a (n:Int):z1n (W n):=by
 unfold z1n W IntKind.wrap
 simp only[IntKind.bits,IntKind.signed]
 simp
 omega
theorem z4Da (x y:Int):z1n (z9va x y):=z06a _
theorem z9ra (x y:Int):z1n (orI x y):=z06a _
theorem z8Fc {x:Int} (h:z1n x):orI x 0=x:=by
 unfold orI
 rw[show BitVec.ofInt 64 x|||BitVec.ofInt 64 0=BitVec.ofInt 64 x by simp,z4Fa h]
def z0Db (t u:Int) (r:z5N):Int:=if r.a=t∧1≤r.kind∧r.kind≤4 then orI u 128 else u
def z11b (t u:Int) (r:z5N):Int:=if r.a=t∧r.kind=5 then orI u 256 else u
def z32b (t u:Int) (r:z5N):Int:=if r.b=t∧(r.kind=1∨r.kind=3) then orI u 512 else u
def z4Oa (t u:Int) (r:z5N):Int:=z32b t (z11b t (z0Db t u r) r) r
def z3ba (p:z9n) (t:Int):Int:=if z2W p t=true then p.rules.foldl (z4Oa t) (z9va (z0la p t).flags 60) else 0
def z01a:z4a:=⟨z8La.pre,fun ds=>i64 (z3ba (z69 (gCs (nth ds 0))) (asI (nth ds 1)))⟩
theorem z7gb {na nb nc:Option Bool} {p:z9n} {t:Int} (h:z4Q p) (ht:z1n t):z01a.pre [.agg (z4n na nb nc p),i64 t]=True:=eq_true ⟨na,nb,nc,p,t,h,ht,rfl⟩
@[simp] theorem z8Ra (na nb nc:Option Bool) (p:z9n) (t:Int):z01a.post [.agg (z4n na nb nc p),i64 t]=i64 (z3ba p t):=by
 show i64 (z3ba (z69 (z4n na nb nc p)) t)=_
 rw[z7t]
theorem z3Xa {t u:Int} (h:z1n u) (r:z5N):z1n (z4Oa t u r):=by
 unfold z4Oa z32b z11b z0Db
 repeat' split
 all_goals first|exact h|exact z9ra _ _
theorem z2ma (t:Int):∀(l:List z5N) {u:Int},z1n u→z1n (l.foldl (z4Oa t) u)
 |[],u,h=>h
 |r::l,u,h=>z2ma t l (z3Xa h r)
theorem z6ya {l:List z5N} (t u:Int) {n:Nat} (h:n<l.length):(l.take (n+1)).foldl (z4Oa t) u=z4Oa t ((l.take n).foldl (z4Oa t) u) (l.getD n ⟨0,0,0⟩):=by
 rw[List.take_add_one,List.foldl_append,List.getD,List.getElem?_eq_getElem h];rfl
end Go.Abs
end

section
namespace Go.Abs
set_option maxRecDepth 100000
@[simp] theorem z0Cc (r:z5N):(z3Z r).length=3:=rfl
@[simp] theorem z4pc (r:z5N):z4h (z3Z r)=true:=rfl
@[simp] theorem z4oc (r:z5N):z2l (z3Z r)=[]:=rfl
@[simp] theorem z2mc (r:z5N):(z3Z r).take 3=z3Z r:=rfl
@[simp] theorem z8Jc (r:z5N):z1b (z3Z r)=true:=rfl
@[simp] theorem z4ic (r:z5N):(∀c∈z3Z r,z9c c)↔True:=by simp[z3Z]
@[simp] theorem z8sc (r:z5N):(∀c∈z3Z r,z6g c=false)↔True:=by simp[z3Z]
@[simp] theorem z0Rc (r:z5N):hdA (z3Z r)=i64 r.kind:=rfl
@[simp] theorem z1Qc (r:z5N):hdA (z3Z r).tail=i64 r.a:=rfl
@[simp] theorem z5Gc (r:z5N):hdA ((z3Z r).drop 2)=i64 r.b:=rfl
theorem z2Fa (a b c:z2a) (r:z5N):splice [a,b,c] 0 (z3Z r)=z3Z r:=rfl
theorem z5Ja (a b:z5N):splice (z3Z a) 0 (z3Z b)=z3Z b:=rfl
def z9Cb (l:List z5N) (i:Nat):z5N:=l.getD i ⟨0,0,0⟩
theorem z7La {l:List z5N} {i:Nat} (h:i<l.length):((z0P l).drop (i*3)).take 3=z3Z (z9Cb l i):=z4sb h
def z5mc (na nb nc:Option Bool) (p:z9n) (t u:Int) (i:Nat) (r:z5N):ASt:=⟨[(0,.agg (z4n na nb nc p)),(1,i64 t)],[(2,.bp 2 0),(5,i64 u),(6,i64 i),(7,.bp 7 0)],[(2,some (z4n na nb nc p)),(7,some (z3Z r))]⟩
def z8wc (na nb nc:Option Bool) (p:z9n) (t u:Int) (i:Nat) (r:z5N):ASt:=⟨[(0,.agg (z4n na nb nc p)),(1,i64 t)],[(2,.bp 2 0),(5,i64 u),(6,i64 i)],[(2,some (z4n na nb nc p)),(7,some (z3Z r))]⟩
set_option maxHeartbeats 4000000 in
theorem z4cc (E:Env) {na nb nc:Option Bool} {p:z9n} {t u:Int} {i:Nat} (r:z5N) {Q:z4m→ASt→Prop} (hq:Q .normal (z8wc na nb nc p t (z32b t u r) i r)):awp E z8j Q (z5mc na nb nc p t u i r):=by
 unfold z5mc
 rw[z32b,z8wc] at hq
 by_cases h1:r.b=t
 ·by_cases h2:r.kind=1
  ·rw[if_pos ⟨h1,.inl h2⟩] at hq
   simp(maxSteps:=1000000) (disch:=first|omega|(simp;done)|(simp;omega)) [z8a,z1a,z0a,z8j,h1,h2,kT,kF,dT,dF]
   exact hq
  ·have b2:(r.kind==1)=false:=beq_false_of_ne h2
   by_cases h3:r.kind=3
   ·rw[if_pos ⟨h1,.inr h3⟩] at hq
    simp(maxSteps:=1000000) (disch:=first|omega|(simp;done)|(simp;omega)) [z8a,z1a,z0a,z8j,h1,h3,kT,kF,dT,dF]
    exact hq
   ·have b3:(r.kind==3)=false:=beq_false_of_ne h3
    rw[if_neg (fun h=>h.2.elim h2 h3)] at hq
    simp(maxSteps:=1000000) (disch:=first|omega|(simp;done)|(simp;omega)) [z8a,z1a,z0a,z8j,h1,b2,b3,kT,kF,dT,dF]
    exact hq
 ·have b1:(r.b==t)=false:=beq_false_of_ne h1
  rw[if_neg (fun h=>h1 h.1)] at hq
  simp(maxSteps:=1000000) (disch:=first|omega|(simp;done)|(simp;omega)) [z8a,z1a,z0a,z8j,b1,kT,kF,dT,dF]
  exact hq
set_option maxHeartbeats 4000000 in
theorem z8dc (E:Env) {na nb nc:Option Bool} {p:z9n} {t u:Int} {i:Nat} (r:z5N) {Q:z4m→ASt→Prop} (hq:Q .normal (z8wc na nb nc p t (z32b t (z11b t u r) r) i r)):awp E z7l Q (z5mc na nb nc p t u i r):=by
 have h3:=z4cc E (u:=z11b t u r) r hq
 clear hq
 unfold z5mc at h3⊢
 rw[z11b] at h3
 by_cases h1:r.a=t
 ·by_cases h2:r.kind=5
  ·rw[if_pos ⟨h1,h2⟩] at h3
   simp(maxSteps:=1000000) (disch:=first|omega|(simp;done)|(simp;omega)) [z8a,z1a,z0a,z7l,h1,h2,kT,kF,dT,dF]
   exact h3
  ·have b2:(r.kind==5)=false:=beq_false_of_ne h2
   rw[if_neg (fun h=>h2 h.2)] at h3
   simp(maxSteps:=1000000) (disch:=first|omega|(simp;done)|(simp;omega)) [z8a,z1a,z0a,z7l,h1,b2,kT,kF,dT,dF]
   exact h3
 ·have b1:(r.a==t)=false:=beq_false_of_ne h1
  rw[if_neg (fun h=>h1 h.1)] at h3
  simp(maxSteps:=1000000) (disch:=first|omega|(simp;done)|(simp;omega)) [z8a,z1a,z0a,z7l,b1,kT,kF,dT,dF]
  exact h3
theorem z8bb {p:z9n} (h:z4Q p):p.types.length≤1000000000∧p.rules.length≤1000000000:=⟨h.1,h.2.1⟩
set_option maxHeartbeats 8000000 in
theorem z8wb (E:Env) (h276:E.G 276=z8La):∀ds,z01a.pre ds→ds.length=z2g.n∧awp E z2g.body (z2q z2g.res (z01a.post ds)) (z9b z2g.wr ds):=by
 rintro _ ⟨na,nb,nc,p,t,hp,ht,rfl⟩
 rw[z8Ra,z3ba]
 obtain⟨pl1,pl2⟩:=z8bb hp
 have e1:=z1sa (na:=na) (nb:=nb) (nc:=nc) hp ht
 cases hh:z2W p t with
 |false=>
  simp(maxSteps:=1000000) (disch:=first|omega|(simp;done)|(simp;omega)) [z8a,z1a,z0a,z2g,h276,e1,hh,kT,kF,dT,dF]
 |true=>
  have ht2:0≤t∧t<p.types.length:=by simpa[z2W] using hh
  obtain⟨n,rfl⟩:∃n:Nat,t=n:=⟨t.toNat,by omega⟩
  have f1:=z5ca (l:=p.types) (i:=n) (by omega)
  have e2:(z0la p n).flags=(p.types.getD n ⟨[],0,0⟩).flags:=rfl
  rw[←e2] at f1
  generalize(z0la p n).flags=fl at*
  simp(maxSteps:=1000000) (disch:=first|omega|(simp;done)|(simp;omega)) [z8a,z1a,z0a,z2g,z0D,h276,e1,hh,kT,kF,dT,dF,f1]
  refine⟨by omega,by omega,by omega,?_⟩
  refine z7a fun Q0 hQ0=> ?_
  refine z4f (fun i:Nat=>⟨[(0,.agg (z4n na nb nc p)),(1,i64 n)],[(2,.bp 2 0),(5,i64 ((p.rules.take i).foldl (z4Oa n) (z9va fl 60))),(6,i64 i)],[(2,some (z4n na nb nc p))]⟩) (fun i=>p.rules.length-i) (fun i=>i≤p.rules.length) 0 (by simp) (by omega) fun i hi=> ?_
  by_cases h:i<p.rules.length
  ·have lt:(i:Int)<p.rules.length:=by omega
   have fs:=z6ya (l:=p.rules) n (z9va fl 60) h
   have r0:=z7La h
   have rD:p.rules.getD i ⟨0,0,0⟩=z9Cb p.rules i:=rfl
   rw[rD] at fs
   generalize(p.rules.take i).foldl (z4Oa n) (z9va fl 60)=u at*
   generalize z9Cb p.rules i=r at*
   rw[z4Oa] at fs
   have h2:=fun Q=>z8dc E (na:=na) (nb:=nb) (nc:=nc) (p:=p) (t:=n) (u:=z0Db n u r) (i:=i) r (Q:=Q)
   unfold z5mc z8wc at h2
   by_cases c1:r.a=n
   ·by_cases c2:1≤r.kind
    ·by_cases c3:r.kind≤4
     ·rw[z0Db,if_pos ⟨c1,c2,c3⟩] at h2 fs
      simp(maxSteps:=1000000) (disch:=first|omega|(simp;done)|(simp;omega)) [z8a,z1a,z0a,z9j,z8l,lt,kT,kF,dT,dF,r0,z2Fa,z5Ja,c1,c2,c3]
      refine⟨by omega,h2 _ ?_⟩
      simp(maxSteps:=1000000) (disch:=first|omega|(simp;done)|(simp;omega)) [z8a,z1a,z0a,kT,kF]
      exact⟨i+1,by omega,by omega,by rw[fs],by omega⟩
     ·rw[z0Db,if_neg (fun h=>c3 h.2.2)] at h2 fs
      simp(maxSteps:=1000000) (disch:=first|omega|(simp;done)|(simp;omega)) [z8a,z1a,z0a,z9j,z8l,lt,kT,kF,dT,dF,r0,z2Fa,z5Ja,c1,c2,c3]
      refine⟨by omega,h2 _ ?_⟩
      simp(maxSteps:=1000000) (disch:=first|omega|(simp;done)|(simp;omega)) [z8a,z1a,z0a,kT,kF]
      exact⟨i+1,by omega,by omega,by rw[fs],by omega⟩
    ·rw[z0Db,if_neg (fun h=>c2 h.2.1)] at h2 fs
     simp(maxSteps:=1000000) (disch:=first|omega|(simp;done)|(simp;omega)) [z8a,z1a,z0a,z9j,z8l,lt,kT,kF,dT,dF,r0,z2Fa,z5Ja,c1,c2]
     refine⟨by omega,h2 _ ?_⟩
     simp(maxSteps:=1000000) (disch:=first|omega|(simp;done)|(simp;omega)) [z8a,z1a,z0a,kT,kF]
     exact⟨i+1,by omega,by omega,by rw[fs],by omega⟩
   ·have b1:(r.a==(n:Int))=false:=beq_false_of_ne c1
    rw[z0Db,if_neg (fun h=>c1 h.1)] at h2 fs
    simp(maxSteps:=1000000) (disch:=first|omega|(simp;done)|(simp;omega)) [z8a,z1a,z0a,z9j,z8l,lt,kT,kF,dT,dF,r0,z2Fa,z5Ja,b1]
    refine⟨by omega,h2 _ ?_⟩
    simp(maxSteps:=1000000) (disch:=first|omega|(simp;done)|(simp;omega)) [z8a,z1a,z0a,kT,kF]
    exact⟨i+1,by omega,by omega,by rw[fs],by omega⟩
  ·have lt:¬(i:Int)<p.rules.length:=by omega
   rw[List.take_of_length_le (by omega)]
   simp(maxSteps:=1000000) (disch:=first|omega|(simp;done)|(simp;omega)) [z8a,z1a,z0a,z9j,z9B,lt,kT,kF,dT,dF,hQ0]
   skip
end Go.Abs
end

section
namespace Go.Abs
set_option maxRecDepth 100000
def byR:List z5N:=[⟨1,128,512⟩,⟨2,128,0⟩,⟨3,128,512⟩,⟨4,128,0⟩,⟨5,256,0⟩]
def z8mc (t u:Int) (r x:z5N):Int:=if r.a=t then orI u x.a else u
def z99b (t u:Int) (r x:z5N):Int:=if r.b=t then orI u x.b else u
def inn (t:Int) (r:z5N) (u:Int) (x:z5N):Int:=if x.kind=r.kind then z99b t (z8mc t u r x) r x else u
theorem z5tb {t u:Int} (hu:z1n u) (r:z5N):byR.foldl (inn t r) u=z4Oa t u r:=by
 have h0:=z8Fc hu
 have h1:=z8Fc (z9ra u 128)
 have h2:=z8Fc (z9ra u 256)
 simp only[byR,List.foldl_cons,List.foldl_nil,inn,z8mc,z99b,z4Oa,z0Db,z11b,z32b]
 by_cases k1:r.kind=1
 ·by_cases ha:r.a=t<;>by_cases hb:r.b=t<;>simp[k1,ha,hb]
 by_cases k2:r.kind=2
 ·by_cases ha:r.a=t<;>by_cases hb:r.b=t<;>simp[k2,ha,hb,h0,h1]
 by_cases k3:r.kind=3
 ·by_cases ha:r.a=t<;>by_cases hb:r.b=t<;>simp[k3,ha,hb]
 by_cases k4:r.kind=4
 ·by_cases ha:r.a=t<;>by_cases hb:r.b=t<;>simp[k4,ha,hb,h0,h1]
 by_cases k5:r.kind=5
 ·by_cases ha:r.a=t<;>by_cases hb:r.b=t<;>simp[k5,ha,hb,h0,h2]
 have n1:¬(1:Int)=r.kind:=fun h=>k1 h.symm
 have n2:¬(2:Int)=r.kind:=fun h=>k2 h.symm
 have n3:¬(3:Int)=r.kind:=fun h=>k3 h.symm
 have n4:¬(4:Int)=r.kind:=fun h=>k4 h.symm
 have n5:¬(5:Int)=r.kind:=fun h=>k5 h.symm
 have n6:¬(1≤r.kind∧r.kind≤4):=by omega
 simp only[n1,n2,n3,n4,n5,n6,k1,k3,k5,if_false,and_false,or_false]
theorem z0sb (t:Int) (r:z5N) (u:Int) {n:Nat} (h:n<5):(byR.take (n+1)).foldl (inn t r) u=inn t r ((byR.take n).foldl (inn t r) u) (z9Cb byR n):=by
 have h':n<byR.length:=h
 rw[List.take_add_one,List.foldl_append,z9Cb,List.getD,List.getElem?_eq_getElem h'];rfl
theorem z3jc:(z0P byR).take 15=z0P byR:=rfl
theorem z9ta:z2l (z0P byR)=[]:=rfl
@[simp] theorem z0Ec:byR.length=5:=rfl
def z5hc (na nb nc:Option Bool) (p:z9n) (t u:Int) (i j:Nat) (r x:z5N):ASt:=⟨[(0,.agg (z4n na nb nc p)),(1,i64 t)],[(5,i64 u),(7,.bp 7 0),(9,.bp 9 0),(22,.sl .plain nb p.rules.length (z0P p.rules)),(23,i64 p.rules.length),(24,i64 i),(28,.agg (z0P byR)),(29,i64 j)],[(2,some (z4n na nb nc p)),(7,some (z3Z r)),(9,some (z3Z x))]⟩
def z1zc (na nb nc:Option Bool) (p:z9n) (t u:Int) (i j:Nat) (r x:z5N):ASt:=⟨[(0,.agg (z4n na nb nc p)),(1,i64 t)],[(5,i64 u),(7,.bp 7 0),(22,.sl .plain nb p.rules.length (z0P p.rules)),(23,i64 p.rules.length),(24,i64 i),(28,.agg (z0P byR)),(29,i64 j)],[(2,some (z4n na nb nc p)),(7,some (z3Z r)),(9,some (z3Z x))]⟩
set_option maxHeartbeats 4000000 in
theorem z3oc (E:Env) {na nb nc:Option Bool} {p:z9n} {t u:Int} {i j:Nat} (r x:z5N) {Q:z4m→ASt→Prop} (hq:Q .normal (z1zc na nb nc p t (z99b t u r x) i j r x)):awp E z1F Q (z5hc na nb nc p t u i j r x):=by
 unfold z5hc
 rw[z99b,z1zc] at hq
 by_cases h1:r.b=t
 ·rw[if_pos h1] at hq
  simp(maxSteps:=1000000) (disch:=first|omega|(simp;done)|(simp;omega)) [z8a,z1a,z0a,z1F,h1,kT,kF,dT,dF]
  exact hq
 ·have b1:(r.b==t)=false:=beq_false_of_ne h1
  rw[if_neg h1] at hq
  simp(maxSteps:=1000000) (disch:=first|omega|(simp;done)|(simp;omega)) [z8a,z1a,z0a,z1F,b1,kT,kF,dT,dF]
  exact hq
set_option maxHeartbeats 4000000 in
theorem z89b (E:Env) {na nb nc:Option Bool} {p:z9n} {t u:Int} {i j:Nat} (r x:z5N) {Q:z4m→ASt→Prop} (hq:Q .normal (z1zc na nb nc p t (z99b t (z8mc t u r x) r x) i j r x)):awp E z0F Q (z5hc na nb nc p t u i j r x):=by
 have h3:=z3oc E (u:=z8mc t u r x) r x hq
 clear hq
 unfold z5hc at h3⊢
 rw[z8mc] at h3
 by_cases h1:r.a=t
 ·rw[if_pos h1] at h3
  simp(maxSteps:=1000000) (disch:=first|omega|(simp;done)|(simp;omega)) [z8a,z1a,z0a,z0F,h1,kT,kF,dT,dF]
  exact h3
 ·have b1:(r.a==t)=false:=beq_false_of_ne h1
  rw[if_neg h1] at h3
  simp(maxSteps:=1000000) (disch:=first|omega|(simp;done)|(simp;omega)) [z8a,z1a,z0a,z0F,b1,kT,kF,dT,dF]
  exact h3
set_option maxHeartbeats 8000000 in
theorem z9Wb (E:Env) (h251:E.G 251=z8La) (hT5:E.T 5=z0P byR):∀ds,z01a.pre ds→ds.length=z6s.n∧awp E z6s.body (z2q z6s.res (z01a.post ds)) (z9b z6s.wr ds):=by
 rintro _ ⟨na,nb,nc,p,t,hp,ht,rfl⟩
 rw[z8Ra,z3ba]
 obtain⟨pl1,pl2⟩:=z8bb hp
 have e1:=z1sa (na:=na) (nb:=nb) (nc:=nc) hp ht
 cases hh:z2W p t with
 |false=>
  simp(maxSteps:=1000000) (disch:=first|omega|(simp;done)|(simp;omega)) [z8a,z1a,z0a,z6s,h251,e1,hh,kT,kF,dT,dF]
 |true=>
  have ht2:0≤t∧t<p.types.length:=by simpa[z2W] using hh
  obtain⟨n,rfl⟩:∃n:Nat,t=n:=⟨t.toNat,by omega⟩
  have f1:=z5ca (l:=p.types) (i:=n) (by omega)
  have e2:(z0la p n).flags=(p.types.getD n ⟨[],0,0⟩).flags:=rfl
  rw[←e2] at f1
  have hi0:z1n (z9va (z0la p n).flags 60):=z4Da _ _
  generalize(z0la p n).flags=fl at*
  simp(maxSteps:=1000000) (disch:=first|omega|(simp;done)|(simp;omega)) [z8a,z1a,z0a,z6s,z31,h251,e1,hh,kT,kF,dT,dF,f1]
  refine⟨by omega,by omega,by omega,?_⟩
  refine z7a fun Q0 hQ0=> ?_
  refine z4f (fun i:Nat=>⟨[(0,.agg (z4n na nb nc p)),(1,i64 n)],[(5,i64 ((p.rules.take i).foldl (z4Oa n) (z9va fl 60))),(22,.sl .plain nb p.rules.length (z0P p.rules)),(23,i64 p.rules.length),(24,i64 i)],[(2,some (z4n na nb nc p))]⟩) (fun i=>p.rules.length-i) (fun i=>i≤p.rules.length) 0 (by simp) (by omega) fun i hi=> ?_
  by_cases h:i<p.rules.length
  ·have lt:(i:Int)<p.rules.length:=by omega
   have fs:=z6ya (l:=p.rules) n (z9va fl 60) h
   have r0:=z7La h
   have rD:p.rules.getD i ⟨0,0,0⟩=z9Cb p.rules i:=rfl
   rw[rD] at fs
   have hiu:=z2ma n (p.rules.take i) hi0
   generalize(p.rules.take i).foldl (z4Oa n) (z9va fl 60)=u at*
   generalize z9Cb p.rules i=r at*
   rw[←z5tb hiu] at fs
   simp(maxSteps:=1000000) (disch:=first|omega|(simp;done)|(simp;omega)) [z8a,z1a,z0a,z6P,z60,lt,kT,kF,dT,dF,r0,z2Fa,z5Ja,hT5,z3jc]
   refine⟨by omega,?_⟩
   refine z7a fun Q1 hQ1=> ?_
   refine z4f (fun j:Nat=>⟨[(0,.agg (z4n na nb nc p)),(1,i64 n)],[(5,i64 ((byR.take j).foldl (inn n r) u)),(7,.bp 7 0),(22,.sl .plain nb p.rules.length (z0P p.rules)),(23,i64 p.rules.length),(24,i64 i),(28,.agg (z0P byR)),(29,i64 j)],[(2,some (z4n na nb nc p)),(7,some (z3Z r))]⟩) (fun j=>5-j) (fun j=>j≤5) 0 (by simp) (by omega) fun j hj=> ?_
   by_cases h':j<5
   ·have lt':(j:Int)<5:=by omega
    have gs:=z0sb n r u h'
    have x0:=z7La (l:=byR) (i:=j) h'
    generalize(byR.take j).foldl (inn n r) u=v at*
    generalize z9Cb byR j=x at*
    by_cases c:x.kind=r.kind
    ·rw[inn,if_pos c] at gs
     have h3:=fun Q=>z89b E (na:=na) (nb:=nb) (nc:=nc) (p:=p) (t:=n) (u:=v) (i:=i) (j:=j) r x (Q:=Q)
     unfold z5hc z1zc at h3
     have cb:(x.kind==r.kind)=true:=by simp[c]
     simp(maxSteps:=1000000) (disch:=first|omega|(simp;done)|(simp;omega)) [z8a,z1a,z0a,z3F,z8P,lt',kT,kF,dT,dF,x0,z2Fa,z5Ja,c,cb,z9ta]
     refine⟨by omega,h3 _ ?_⟩
     simp(maxSteps:=1000000) (disch:=first|omega|(simp;done)|(simp;omega)) [z8a,z1a,z0a,kT,kF,z9ta]
     exact⟨j+1,by omega,by omega,gs.symm,by omega⟩
    ·rw[inn,if_neg c] at gs
     have cb:(x.kind==r.kind)=false:=beq_false_of_ne c
     simp(maxSteps:=1000000) (disch:=first|omega|(simp;done)|(simp;omega)) [z8a,z1a,z0a,z3F,z8P,lt',kT,kF,dT,dF,x0,z2Fa,z5Ja,c,cb,z9ta]
     exact⟨by omega,j+1,by omega,by omega,gs.symm,by omega⟩
   ·have lt':¬(j:Int)<5:=by omega
    rw[List.take_of_length_le (by simp;omega)]
    simp(maxSteps:=1000000) (disch:=first|omega|(simp;done)|(simp;omega)) [z8a,z1a,z0a,z3F,lt',kT,kF,dT,dF,hQ1]
    exact⟨i+1,by omega,by omega,fs.symm,by omega⟩
  ·have lt:¬(i:Int)<p.rules.length:=by omega
   rw[List.take_of_length_le (by omega)]
   simp(maxSteps:=1000000) (disch:=first|omega|(simp;done)|(simp;omega)) [z8a,z1a,z0a,z6P,z51,lt,kT,kF,dT,dF,hQ0]
   skip
end Go.Abs
end
