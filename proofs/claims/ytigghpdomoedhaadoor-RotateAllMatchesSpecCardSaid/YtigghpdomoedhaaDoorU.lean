/- Lemmas: an abstract interpreter, and what the functions compute. -/
import Derived.Test.YtigghpdomoedhaaDoorS
import Derived.Test.YtigghpdomoedhaaDoorR
import Derived.Test.YtigghpdomoedhaaDoorE
set_option linter.unusedSimpArgs false
set_option linter.unusedVariables false
set_option linter.unusedSectionVars false
section
namespace Go.Abs
def z6ac (p:z9n) (t:z2k):Prop:=z2la p∧z3Va p∧z3Eb t
theorem z2Lb {p:z9n} {t:z2k} (h:z1Tb p t=true) (ht:z3Eb t):z4Q p∧z2N t:=by
 simp only[z1Tb,Bool.and_eq_true] at h
 exact⟨z9Ub h.1.1,h.2,ht⟩
end Go.Abs
end

section
namespace Go.Abs
set_option maxRecDepth 100000
theorem z2Gc (nl:Option Bool) (t:z2k) (a b c d:z2a):(z0d nl t++[a,b,c,d]).take 2=z0d nl t:=rfl
theorem z4Ic (nl:Option Bool) (t:z2k) (a b c d:z2a):hdA ((z0d nl t++[a,b,c,d]).drop 2)=a:=rfl
theorem z6Fc (nl:Option Bool) (t:z2k) (a b c d:z2a):hdA ((z0d nl t++[a,b,c,d]).drop 3)=b:=rfl
theorem z5Mc (nl:Option Bool) (t:z2k) (a b c d:z2a):hdA ((z0d nl t++[a,b,c,d]).drop 4)=c:=rfl
theorem z7Lc (nl:Option Bool) (t:z2k) (a b c d:z2a):hdA ((z0d nl t++[a,b,c,d]).drop 5)=d:=rfl
theorem z1mc (a b c d e f:z2a) (nl:Option Bool) (t:z2k) (g h i j:z2a):splice [a,b,c,d,e,f] 0 (z0d nl t++[g,h,i,j])=z0d nl t++[g,h,i,j]:=rfl
theorem z54a (nl:Option Bool) (t:z2k) (x:List UInt8) (y z:Int) (n':Option Bool) (n:Nat) (l:List z2a):(∀c:z2a,c∈z0d nl t∨c=st x∨c=i64 y∨c= .sl .plain n' n l∨c=i64 z→z9c c)∧(∀c:z2a,c∈z0d nl t∨c=st x∨c=i64 y∨c= .sl .plain n' n l∨c=i64 z→z6g c=false):=by
 refine⟨?_,?_⟩
 ·rintro c (h|rfl|rfl|rfl|rfl)
  ·exact(z6Da nl t).2 trivial c h
  all_goals simp
 ·rintro c (h|rfl|rfl|rfl|rfl)
  ·exact(z2Qa nl t).2 trivial c h
  all_goals simp
end Go.Abs
end

section
namespace Go.Abs
set_option maxRecDepth 100000
theorem z8ma {p:z9n} {now:Int}:∀(l:List Int) (t:z2k) (s:List UInt8) (m:List Int),z2N t→(z0aa p now l t s m).t.keys.length≤100000000∧(z0aa p now l t s m).m.length≤m.length+l.length
 |[],t,s,m,h=>⟨(z8q h.1).1.2,Nat.le_refl _⟩
 |i::l,t,s,m,h=>by
  rw[z0aa]
  split
  ·rename_i he
   have:=z8ma (p:=p) (now:=now) l _ (z1M p t s now i).s (m++[(z1M p t s now i).id]) (z3ca h he).1
   refine⟨this.1,Nat.le_trans this.2 ?_⟩
   simp only[List.length_append,List.length_cons,List.length_nil]
   omega
  ·exact⟨Nat.zero_le _,Nat.zero_le _⟩
theorem z5Ya (p:z9n) {t:z2k} (a b:Int) (h:z2N t):(z1ca p t.keys a b).length≤100000000:=by
 have h1:=(z8q h.1).1.2
 rw[z1ca]
 split
 ·exact Nat.le_trans (z3Ka _ _ _ _ _) h1
 ·exact Nat.zero_le _
def z63a:z4a:=⟨fun ds=>∃(p:z9n) (t:z2k) (a b:Int) (l:List Int),z6ac p t∧z8kb l.length∧ds=[.agg (z4n none none none p),.agg (z0d none t),.agg [i64 a,i64 b],.sl .plain none l.length (z6l l)],fun _=>bo true⟩
set_option maxHeartbeats 16000000 in
theorem z34a (E:Env) (h280:E.G 280=z9Ia) (h281:E.G 281=z8Ga) (h262:E.G 262=z7xa) (h267:E.G 267=z86) (h238:E.G 238=z3ib) (h268:E.G 268=z0Ka) (h241:E.G 241=z5Wa) (h271:E.G 271=z5Wa):∀ds,z63a.pre ds→ds.length=z0b.n∧awp E z0b.body (z2q z0b.res (z63a.post ds)) (z9b z0b.wr ds):=by
 rintro _ ⟨p,t,a,b,l,⟨hp,hn,ht⟩,hs,rfl⟩
 show _∧awp E _ (z2q _ (bo true)) _
 have f1:=z9sb (na:=none) (nb:=none) (nc:=none) (nl:=none) hp hn ht
 have f2:=z7Aa none none none none p t
 unfold z8kb at hs
 cases hf:z1Tb p t with
 |false=>
  rw[hf] at f2
  simp(maxSteps:=1000000) (disch:=first|omega|(simp;done)|(simp;omega)) [z8a,z1a,z0a,z0b,h280,h281,f1,f2,kT,kF,dT,dF]
  skip
 |true=>
  rw[hf] at f2
  obtain⟨hpo,hg⟩:=z2Lb hf ht
  have hlen:t.keys.length≤100000000:=(z8q hg.1).1.2
  by_cases hs2:l.length≤10
  ·have hs3:¬(10:Int)<l.length:=by omega
   have hsd:([115,101,101,100]:List UInt8).length<1000000000:=by decide
   have k1:=z9La (na:=none) (nb:=none) (nc:=none) (nl:=none) (ni:=none) (s:=[115,101,101,100]) a hpo hg hsd (by omega:l.length≤1000)
   have k2:=z2sa none none none none none p t [115,101,101,100] a l l.length
   have q1:=z0mb (na:=none) (nb:=none) (nc:=none) (nl:=none) (ni:=none) (s:=[115,101,101,100]) a hpo hg hsd (by omega:l.length≤1000)
   have q2:=z5Aa none none none none none p t [115,101,101,100] a l l.length
   have d1:=z24a (na:=none) (nb:=none) (nc:=none) (nl:=none) a b hpo hg
   have d2:=z5da none none none none p t a b
   obtain⟨z1,z2⟩:=z8ma (p:=p) (now:=a) l t [115,101,101,100] [] hg
   have z3:=z5Ya p a b hg
   rw[ite_self] at k2 q2
   generalize z0aa p a l t [115,101,101,100] []=r at*
   generalize z1ca p t.keys a b=D at*
   have m1:z7xa.pre [.agg (z0d none r.t),.agg (z0d none r.t)]=True:=z5kb z1
   have m2:z86.pre [.sl .plain none r.m.length (z6l r.m),.sl .plain none r.m.length (z6l r.m)]=True:=z44 (by simp only[List.length_nil] at z2;omega)
   have m3:z86.pre [.sl .plain none D.length (z6l D),.sl .plain none D.length (z6l D)]=True:=z44 z3
   rw[z1Ub] at k2
   simp(maxSteps:=1000000) (disch:=first|omega|(simp;done)|(simp;omega)) [z8a,z1a,z0a,z0b,h280,h281,f1,f2,hs2,hs3,kT,kF,dT,dF]
   rw[z0n]
   refine z7s fun B hB=> ?_
   simp(maxSteps:=1000000) (disch:=first|omega|(simp;done)|(simp;omega)) [z8a,z1a,z0a,h238,k1,k2,kT,kF,dT,dF,z3t,z0w,z1q]
   rw[hB];clear hB
   refine z7s fun B hB=> ?_
   simp(maxSteps:=1000000) (disch:=first|omega|(simp;done)|(simp;omega)) [z8a,z1a,z0a,h268,q1,q2,kT,kF,dT,dF,z3t,z0w,z1q,z1mc]
   refine⟨z54a _ _ _ _ _ _ _ _,?_⟩
   rw[hB];clear hB
   refine z7s fun B hB=> ?_
   simp(maxSteps:=1000000) (disch:=first|omega|(simp;done)|(simp;omega)) [z8a,z1a,z0a,h262,m1,kT,kF,dT,dF,z2Gc]
   rw[hB];clear hB
   refine z7s fun B hB=> ?_
   simp(maxSteps:=1000000) (disch:=first|omega|(simp;done)|(simp;omega)) [z8a,z1a,z0a,h267,m2,kT,kF,dT,dF,z5Mc]
   rw[hB];clear hB
   refine z7s fun B hB=> ?_
   simp(maxSteps:=1000000) (disch:=first|omega|(simp;done)|(simp;omega)) [z8a,z1a,z0a,h241,h271,h267,d1,d2,m3,kT,kF,dT,dF]
   rw[hB];clear hB
   simp(maxSteps:=1000000) (disch:=first|omega|(simp;done)|(simp;omega)) [z8a,z1a,z0a,kT,kF,dT,dF,z4Ic,z6Fc,z7Lc]
   skip
  ·have hs3:(10:Int)<l.length:=by omega
   simp(maxSteps:=1000000) (disch:=first|omega|(simp;done)|(simp;omega)) [z8a,z1a,z0a,z0b,h280,h281,f1,f2,hs2,hs3,kT,kF,dT,dF]
   skip
end Go.Abs
end

section
namespace Go.Abs
theorem z2va {cs:List z2a} (h:GT.str.has cs):∃l:List UInt8,z8kb l.length∧cs=[st l]:=by
 simp only[GT.has] at h
 obtain⟨s,rfl,hs⟩:=h
 refine⟨s.data.toList,?_,by simp[st]⟩
 have:s.data.toList.length=s.size:=Array.length_toList
 show s.data.toList.length≤9223372036854775807
 rw[this]
 exact hs
theorem z15 {α:Type} {e:GT} {enc:α→List z2a} {P:α→Prop} (he:∀cs,e.has cs→∃a,P a∧cs=enc a) {cs:List z2a} (h:(GT.sl e).has cs):∃l:List α,(∀a∈l,P a)∧z8kb l.length∧cs=[.sl .plain none l.length (l.flatMap enc)]:=by
 obtain⟨ess,h1,rfl,h3⟩:=h
 suffices H:∃l:List α,(∀x∈l,P x)∧l.length=ess.length∧ess.flatten=l.flatMap enc by
  obtain⟨l,k1,k2,k3⟩:=H
  exact⟨l,k1,by rw[k2];exact h3,by rw[k2,k3]⟩
 clear h3
 induction ess with
 |nil=>exact⟨[],by simp,rfl,rfl⟩
 |cons c ess ih=>
  obtain⟨l,k1,k2,k3⟩:=ih fun c hc=>h1 c (by simp[hc])
  obtain⟨x,a0,rfl⟩:=he c (h1 c (by simp))
  refine⟨x::l,fun y hy=> ?_,by simp[k2],by simp[k3]⟩
  rcases List.mem_cons.1 hy with rfl|hy
  ·exact a0
  ·exact k1 y hy
def z6Qc:GT:= .st [.str,.int .i64,.int .i64]
def z6Pc:GT:= .st [.int .i64,.int .i64,.int .i64]
def z8Oc:GT:= .st [.int .i64,.int .i64,.int .i64,.int .i64,.int .i64]
def z5Ic:GT:= .st [.int .i64,.int .i64,.str,.int .i64,.int .i64,.int .i64,.int .i64,.int .i64,.bool]
theorem z1Yb (cs:List z2a) (h:z6Qc.has cs):∃t:z57a,t.name.length≤9223372036854775807∧cs=z7sb t:=by
 simp only[z6Qc,GT.has,GT.hasL] at h
 obtain⟨a1,r1,rfl,h1,a2,r2,rfl,h2,a3,r3,rfl,h3,rfl⟩:=h
 obtain⟨s,hs,rfl⟩:=z2va (by simpa only[GT.has] using h1)
 obtain⟨x,_,_,rfl⟩:=z7p (by simpa only[GT.has] using h2)
 obtain⟨y,_,_,rfl⟩:=z7p (by simpa only[GT.has] using h3)
 exact⟨⟨s,x,y⟩,hs,rfl⟩
theorem z0Xb (cs:List z2a) (h:z6Pc.has cs):∃t:z5N,True∧cs=z3Z t:=by
 simp only[z6Pc,GT.has,GT.hasL] at h
 obtain⟨a1,r1,rfl,h1,a2,r2,rfl,h2,a3,r3,rfl,h3,rfl⟩:=h
 obtain⟨z,_,_,rfl⟩:=z7p (by simpa only[GT.has] using h1)
 obtain⟨x,_,_,rfl⟩:=z7p (by simpa only[GT.has] using h2)
 obtain⟨y,_,_,rfl⟩:=z7p (by simpa only[GT.has] using h3)
 exact⟨⟨z,x,y⟩,trivial,rfl⟩
theorem z9Rb (cs:List z2a) (h:z8Oc.has cs):∃t:z86b,True∧cs=z31b t:=by
 simp only[z8Oc,GT.has,GT.hasL] at h
 obtain⟨a1,r1,rfl,h1,a2,r2,rfl,h2,a3,r3,rfl,h3,a4,r4,rfl,h4,a5,r5,rfl,h5,rfl⟩:=h
 obtain⟨z,_,_,rfl⟩:=z7p (by simpa only[GT.has] using h1)
 obtain⟨x,_,_,rfl⟩:=z7p (by simpa only[GT.has] using h2)
 obtain⟨y,_,_,rfl⟩:=z7p (by simpa only[GT.has] using h3)
 obtain⟨u,_,_,rfl⟩:=z7p (by simpa only[GT.has] using h4)
 obtain⟨v,_,_,rfl⟩:=z7p (by simpa only[GT.has] using h5)
 exact⟨⟨z,x,y,u,v⟩,trivial,rfl⟩
theorem z8Nb (cs:List z2a) (h:z5Ic.has cs):∃k:z2d,kOk k∧cs=z3j k:=by
 simp only[z5Ic,GT.has,GT.hasL] at h
 obtain⟨a1,r1,rfl,h1,a2,r2,rfl,h2,a3,r3,rfl,h3,a4,r4,rfl,h4,a5,r5,rfl,h5,a6,r6,rfl,h6,a7,r7,rfl,h7,a8,r8,rfl,h8,a9,r9,rfl,h9,rfl⟩:=h
 obtain⟨k1,x1,y1,rfl⟩:=z7p (by simpa only[GT.has] using h1)
 obtain⟨k2,x2,y2,rfl⟩:=z7p (by simpa only[GT.has] using h2)
 obtain⟨s,hs,rfl⟩:=z2va (by simpa only[GT.has] using h3)
 obtain⟨k4,x4,y4,rfl⟩:=z7p (by simpa only[GT.has] using h4)
 obtain⟨k5,x5,y5,rfl⟩:=z7p (by simpa only[GT.has] using h5)
 obtain⟨k6,x6,y6,rfl⟩:=z7p (by simpa only[GT.has] using h6)
 obtain⟨k7,x7,y7,rfl⟩:=z7p (by simpa only[GT.has] using h7)
 obtain⟨k8,x8,y8,rfl⟩:=z7p (by simpa only[GT.has] using h8)
 obtain⟨b,rfl⟩:=z3qb (by simpa only[GT.has] using h9)
 exact⟨⟨k1,k2,s,k4,k5,k6,k7,k8,b⟩,⟨⟨x1,y1⟩,⟨x2,y2⟩,hs,⟨x4,y4⟩,⟨x5,y5⟩,⟨x6,y6⟩,⟨x7,y7⟩,⟨x8,y8⟩⟩,rfl⟩
def z8Dc:GT:= .st [.str,.sl z6Qc,.sl z6Pc,.sl z8Oc]
def z9Fc:GT:= .st [.int .i64,.sl z5Ic]
theorem z3Xb {cs:List z2a} (h:z8Dc.has cs):∃p:z9n,z2la p∧z3Va p∧cs=z4n none none none p:=by
 rw[z8Dc,GT.has] at h
 simp only[GT.hasL] at h
 obtain⟨a1,r1,rfl,h1,a2,r2,rfl,h2,a3,r3,rfl,h3,a4,r4,rfl,h4,rfl⟩:=h
 obtain⟨s,_,rfl⟩:=z2va h1
 obtain⟨lt,ht,bt,rfl⟩:=z15 (enc:=z7sb) z1Yb h2
 obtain⟨lr,hr,br,rfl⟩:=z15 (enc:=z3Z) z0Xb h3
 obtain⟨lq,hq,bq,rfl⟩:=z15 (enc:=z31b) z9Rb h4
 exact⟨⟨s,lt,lr,lq⟩,⟨bt,br,bq⟩,ht,rfl⟩
theorem z2Hb {cs:List z2a} (h:z9Fc.has cs):∃t:z2k,z3Eb t∧cs=z0d none t:=by
 rw[z9Fc,GT.has] at h
 simp only[GT.hasL] at h
 obtain⟨a1,r1,rfl,h1,a2,r2,rfl,h2,rfl⟩:=h
 obtain⟨n,n0,n1,rfl⟩:=z7p h1
 obtain⟨l,hl,bl,rfl⟩:=z15 (enc:=z3j) z8Nb h2
 exact⟨⟨n,l⟩,⟨bl,⟨n0,n1⟩,hl⟩,rfl⟩
theorem z4Nb {cs:List z2a} (h:(GT.arr 2 (.int .i64)).has cs):∃a b:Int,z1n a∧z1n b∧cs=[i64 a,i64 b]:=by
 obtain⟨ess,h1,h2,rfl⟩:=h
 match ess,h1 with
 |[x,y],_=>
  obtain⟨a,a0,a1,rfl⟩:=z7p (h2 x (by simp))
  obtain⟨b,b0,b1,rfl⟩:=z7p (h2 y (by simp))
  exact⟨a,b,⟨a0,a1⟩,⟨b0,b1⟩,rfl⟩
end Go.Abs
end

section
namespace Go.Abs
theorem z3tb (cs:List z2a) (h:(GT.int .i64).has cs):∃x:Int,True∧cs=[i64 x]:=by
 obtain⟨n,_,_,rfl⟩:=z7p h
 exact⟨n,trivial,rfl⟩
theorem z9Ba:∀l:List Int,(l.flatMap fun x=>[i64 x])=z6l l
 |[]=>rfl
 |x::l=>by rw[List.flatMap_cons,z9Ba l];rfl
theorem z6bb (as:List z2a) (h:z67b [z8Dc,z9Fc,.arr 2 (.int .i64),.sl (.int .i64)] as):z63a.pre as:=by
 simp only[z67b] at h
 obtain⟨c0,_,rfl,h0,c1,_,rfl,h1,c3,_,rfl,h3,c2,_,rfl,h2,rfl⟩:=h
 obtain⟨p,p1,p2,rfl⟩:=z3Xb h0
 obtain⟨t,ht,rfl⟩:=z2Hb h1
 obtain⟨a,b,_,_,rfl⟩:=z4Nb h3
 obtain⟨l,_,hl,rfl⟩:=z15 (enc:=fun x=>[i64 x]) z3tb h2
 rw[z9Ba]
 exact⟨p,t,a,b,l,⟨p1,p2,ht⟩,hl,rfl⟩
end Go.Abs
end
