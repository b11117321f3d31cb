/- Lemmas: an abstract interpreter, and what the functions compute. -/
import Derived.Test.YtepddcbbkhdfiaaGreatDoorW
import Derived.Test.YtepddcbbkhdfiaaGreatDoorU
import Derived.Test.YtepddcbbkhdfiaaGreatDoorH
import Derived.Test.YtepddcbbkhdfiaaGreatDoorO
import Derived.Test.YtepddcbbkhdfiaaGreatDoorG
set_option linter.unusedSimpArgs false
set_option linter.unusedVariables false
set_option linter.unusedSectionVars false
section
namespace Go.Abs
end Go.Abs
end

section
namespace Go.Abs
set_option maxHeartbeats 8000000 in
theorem z6oc (E:Env) (h54:E.G 54=z1F):∀ds,z8aa.pre ds→ds.length=z9i.n∧awp E z9i.body (z0m z9i.res (z8aa.post ds)) (z3b z9i.wr ds):=by
 rintro _ ⟨c,d,nl,nl',hc,hd,rfl⟩
 rw[z9ea]
 obtain⟨k1,k2,k3,k4,k5,k6,dt,ls⟩:=c
 obtain⟨j1,j2,j3,j4,j5,j6,dt',ls'⟩:=d
 have hll:=hc.2.2
 simp only at hll
 simp(maxSteps:=1000000) (disch:=first|omega|(simp;done)|(simp;omega)) [z9a,z1a,z0a,z9i,z0W]
 refine z4a fun Q0 hQ0=> ?_
 simp only[z8Ua] at hQ0
 cases c1:k1==j1
 ·rw[c1] at hQ0
  simp(maxSteps:=1000000) (disch:=first|omega|(simp;done)|(simp;omega)) [z9a,z1a,z0a,z1e,c1,hQ0]
 rw[c1] at hQ0
 cases c2:k2==j2
 ·rw[c2] at hQ0
  simp(maxSteps:=1000000) (disch:=first|omega|(simp;done)|(simp;omega)) [z9a,z1a,z0a,z1e,c1,c2,hQ0]
 rw[c2] at hQ0
 cases c3:k3==j3
 ·rw[c3] at hQ0
  simp(maxSteps:=1000000) (disch:=first|omega|(simp;done)|(simp;omega)) [z9a,z1a,z0a,z1e,c1,c2,c3,hQ0]
 rw[c3] at hQ0
 cases c4:k4==j4
 ·rw[c4] at hQ0
  simp(maxSteps:=1000000) (disch:=first|omega|(simp;done)|(simp;omega)) [z9a,z1a,z0a,z1e,c1,c2,c3,c4,hQ0]
 rw[c4] at hQ0
 cases c5:k5==j5
 ·rw[c5] at hQ0
  simp(maxSteps:=1000000) (disch:=first|omega|(simp;done)|(simp;omega)) [z9a,z1a,z0a,z1e,c1,c2,c3,c4,c5,hQ0]
 rw[c5] at hQ0
 cases c6:k6==j6
 ·rw[c6] at hQ0
  simp(maxSteps:=1000000) (disch:=first|omega|(simp;done)|(simp;omega)) [z9a,z1a,z0a,z1e,c1,c2,c3,c4,c5,c6,hQ0]
 rw[c6] at hQ0
 cases c7:dt==dt'
 ·rw[c7] at hQ0
  have d7:(dt=dt')=False:=by simpa using c7
  simp(maxSteps:=1000000) (disch:=first|omega|(simp;done)|(simp;omega)) [z9a,z1a,z0a,z1e,c1,c2,c3,c4,c5,c6,d7,hQ0]
 rw[c7] at hQ0
 have d7:(dt=dt')=True:=by simpa using c7
 simp(maxSteps:=1000000) (disch:=first|omega|(simp;done)|(simp;omega)) [z9a,z1a,z0a,z1e,c1,c2,c3,c4,c5,c6,d7,h54,z8Ya,hQ0]
end Go.Abs
end

section
namespace Go.Abs
theorem z6Zb (E:Env):∀ds,z1F.pre ds→ds.length=z7f.n∧awp E z7f.body (z0m z7f.res (z1F.post ds)) (z3b z7f.wr ds):=by
 rintro _ ⟨nl,nl',a,b,ha,rfl⟩
 simp(maxSteps:=1000000) (disch:=first|omega|(simp;done)|(simp;omega)) [z9a,z1a,z0a,z7f]
 rw[z6d]
 refine⟨by simp,fun h=> ?_,fun h=> ?_⟩<;>simp at h
 ·have:(a==b)=false:=by simpa using fun e:a=b=>h (by rw[e])
  simp(maxSteps:=1000000) (disch:=first|omega|(simp;done)|(simp;omega)) [z9a,z1a,z0a,z1F,this]
 simp(maxSteps:=1000000) (disch:=first|omega|(simp;done)|(simp;omega)) [z9a,z1a,z0a,z1A]
 have hl:a.length=b.length:=by omega
 refine z4a fun Q0 hQ0=> ?_
 refine z4e (fun i:Nat=>⟨[(0,.sl .plain nl a.length (z9p a)),(1,.sl .plain nl' b.length (z9p b))],[(5,i64 i)],[]⟩)
  (fun i=>a.length-i) (fun i=>i≤a.length∧a.take i=b.take i) 0 rfl (by simp) fun i hi=> ?_
 obtain⟨hi,he⟩:=hi
 refine z4a fun Q1 hQ1=> ?_
 simp(maxSteps:=1000000) (disch:=first|omega|(simp;done)|(simp;omega)) [z9a,z1a,z0a,z3A]
 rw[z6d]
 refine⟨by simp,fun h1=> ?_,fun h1=> ?_⟩<;>simp at h1
 ·have h1':i<a.length:=by omega
  simp(maxSteps:=1000000) (disch:=first|omega|(simp;done)|(simp;omega)) [z9a,z1a,z0a,z6A,z5Ia]
  refine⟨by omega,by omega,by omega,by omega,?_⟩
  rw[z6d]
  refine⟨by simp,fun h2=> ?_,fun h2=> ?_⟩<;>simp at h2
  ·have:(a==b)=false:=by simpa using fun e:a=b=>h2 (by rw[e])
   simp(maxSteps:=1000000) (disch:=first|omega|(simp;done)|(simp;omega)) [z9a,z1a,z0a,hQ1,hQ0,z1F,this]
  ·simp(maxSteps:=1000000) (disch:=first|omega|(simp;done)|(simp;omega)) [z9a,z1a,z0a,hQ1]
   refine⟨i+1,by omega,⟨by omega,?_⟩,by simp⟩
   have h3:i<b.length:=by omega
   have h4:a[i]=b[i]:=by simpa[atI,List.getD,List.getElem?_eq_getElem h1',List.getElem?_eq_getElem h3] using h2
   rw[List.take_succ_eq_append_getElem h1',List.take_succ_eq_append_getElem h3,he,h4]
 ·have e:i=a.length:=by omega
  subst e
  have:(a==b)=true:=by
   rw[List.take_length,hl,List.take_length] at he
   simpa using he
  simp(maxSteps:=1000000) (disch:=first|omega|(simp;done)|(simp;omega)) [z9a,z1a,z0a,hQ1,hQ0,z4A,z1F,this]
end Go.Abs
end

section
namespace Go.Abs
theorem z8Sc (E:Env) (h0:E.G 0=z1ra) (h1:E.G 1=z6Ob) (h2:E.G 2=z08b):∀ds,z4eb.pre ds→ds.length=z4X.n∧awp E z4X.body (z0m z4X.res (z4eb.post ds)) (z3b z4X.wr ds):=by
 rintro _ ⟨nl,l,hl,rfl⟩
 have hb:(z4w.init.add l).b.length=64:=by rw[z7Ma,z1Qa]
 have hn:(z4w.init.add l).n.toNat<1099511627776:=by rw[z6Ya _ _ (by show 0+l.length<_;omega)];show 0+l.length<_;omega
 simp(disch:=first|omega|(simp;omega)) [z4X,h0,h1,h2,z1ra,z6Ob,z08b,z4eb,z4w.v,z4w.of_scs _ z1Qa,z4w.of_scs _ hb,z8a]
 have hs:(z4w.init.add l).sum.length=32:=z0Fa _ 32
 refine⟨⟨_,z1Qa,rfl⟩,⟨_,hb,hn,rfl⟩,hs,?_⟩
 rw[z8a (by simp[hs])]
 simp[hs,sha,List.take_of_length_le]
end Go.Abs
end

section
namespace Go.Abs
theorem z2jc (E:Env):∀ds,z1ra.pre ds→ds.length=z2D.n∧awp E z2D.body (z0m z2D.res (z1ra.post ds)) (z3b z2D.wr ds):=by
 rintro _ rfl
 simp[z2D,z1ra,z4w.v,z4w.init,scs,H8.l,z0Va,z8ya,z8a,iv,or_imp,forall_and,List.take_of_length_le]
theorem z8Tc (E:Env):∀ds,z5ic.pre ds→ds.length=z5l.n∧awp E z5l.body (z0m z5l.res (z5ic.post ds)) (z3b z5l.wr ds):=by
 rintro _ ⟨x,k,rfl⟩
 simp[z5l,z5ic,z8Db]
theorem z6rd (E:Env) (h13:E.G 13=z5ic):∀ds,z8Jc.pre ds→ds.length=z2X.n∧awp E z2X.body (z0m z2X.res (z8Jc.post ds)) (z3b z2X.wr ds):=by
 rintro _ ⟨x,i,j,k,rfl⟩
 simp[z2X,z8Jc,h13,z5ic]
theorem z2zc (E:Env) (h13:E.G 13=z5ic):∀ds,z40.pre ds→ds.length=z8s.n∧awp E z8s.body (z0m z8s.res (z40.post ds)) (z3b z8s.wr ds):=by
 rintro _ ⟨nl,b,hb,rfl⟩
 simp[z8s,h13,z5ic,z40]
 refine z4a fun Q0 hQ0=> ?_
 refine z4e (fun t:Nat=>⟨[(0,.sl .plain nl 64 (bys b))],[(2,.bp 2 0),(3,.bp 3 0),(11,i64 t)],[(2,some (z6o (z6i 64))),(3,some (z6o (z9j b t++z6i (64-t))))]⟩)
  (fun t=>64-t) (· ≤64) 0 rfl (by decide) fun t ht=> ?_
 have hl:=z4q b t
 refine z4a fun Q1 hQ1=> ?_
 simp(disch:=first|omega|(simp;omega)) [z9a]
 rw[z6d]
 refine⟨by simp,fun h=> ?_,fun h=> ?_⟩<;>simp at h
 ·simp(disch:=first|omega|(simp;omega)) [z9a]
  rw[z6d]
  refine⟨by simp,fun h16=> ?_,fun h16=> ?_⟩<;>simp at h16
  ·simp(disch:=first|omega|(simp;omega)) [z9a]
   refine⟨by omega,?_⟩
   refine z4a fun Q2 hQ2=> ?_
   refine z4e (fun j:Nat=>⟨[(0,.sl .plain nl 64 (bys b))],[(2,.bp 2 0),(3,.bp 3 0),(4,i64 t),(11,i64 t),(22,.sl .plain nl 4 (bys ((b.drop (4*t)).take 4))),(23,i64 4),(24,i64 j)],
     [(2,some (z6o (z6i 64))),(3,some (z6o (z9j b t++ldw b t j::z6i (63-t))))]⟩)
    (fun j=>4-j) (· ≤4) 0 ?_ (by decide) fun j hj=> ?_
   ·have e1:(4*(t:Int)+4).toNat-(4*(t:Int)).toNat=4:=by omega
    have e2:(4*(t:Int)).toNat=4*t:=by omega
    rw[e1,e2,z7sa (show t<64 by omega),ldw]
    rfl
   refine z4a fun Q3 hQ3=> ?_
   simp(disch:=first|omega|(simp;omega)) [z9a]
   rw[z6d]
   refine⟨by simp,fun h4=> ?_,fun h4=> ?_⟩<;>simp at h4
   ·simp(disch:=first|omega|(simp;omega)) [z9a,z95a,z51,z4Ac,z3bc,z0Vb,z1C,z60a]
    repeat' (first|omega|apply And.intro)
    simp(disch:=omega) [hQ3,z9a]
    refine⟨j+1,by omega,by omega,by omega,?_⟩
    rw[ldw]
   ·have e4:j=4:=by omega
    subst e4
    simp(disch:=omega) [hQ3,hQ2,hQ1,z9a]
    refine⟨t+1,by omega,by omega,by omega,?_⟩
    rw[z9j,z83a,if_pos (by omega),show 64-(t+1)=63-t by omega]
    simp
  ·simp(disch:=first|omega|(simp;omega)) [z9a,h13,z5ic,z5qd,z7Tc,z8Xc,z6Mc,z51,z1C,z2Mb]
   repeat' (first|omega|apply And.intro)
   simp[hQ1]
   refine⟨t+1,by omega,by omega,by omega,?_⟩
   rw[z9j,z83a,if_neg (by omega),show 64-(t+1)=63-t by omega,z7sa (by omega),show((t:Int)-16).toNat=t-16 by omega,show((t:Int)-15).toNat=t-15 by omega,show((t:Int)-7).toNat=t-7 by omega,show((t:Int)-2).toNat=t-2 by omega]
   simp[sg0,sg1]
 ·have e:t=64:=by omega
  subst e
  simp(disch:=simp[hl]) [hQ1,hQ0,z8a,hl,List.take_of_length_le,z6i]
end Go.Abs
end

section
namespace Go.Abs
theorem z2cd (E:Env) (h4:E.G 4=z4Na):∀ds,z6Ob.pre ds→ds.length=z4o.n∧awp E z4o.body (z0m z4o.res (z6Ob.post ds)) (z3b z4o.wr ds):=by
 rintro _ ⟨s,m,hb,rfl⟩
 simp(disch:=first|omega|(simp;omega)) [z4o,h4,z4Na,z6Ob,z4w.v,hb,z5L,z4w.of_scs]
 refine z4a fun Q0 hQ0=> ?_
 refine z4e (fun k:Nat=>⟨[(0,.agg (scs s))],[(1,st (m.drop k)),(2,.bp 2 0),(4,.bp 4 0)],
   [(2,some (scs (s.add (m.take k)))),(4,some (z6o (z6i 8)++(bys (z9c 64)++[u64 0])))]⟩)
  (fun k=>m.length-k) (· ≤m.length) 0 (by simp[z4w.add]) (by simp) fun k hk=> ?_
 refine z4a fun Q1 hQ1=> ?_
 have hb':(s.add (m.take k)).b.length=64:=by rw[z7Ma,hb]
 simp(disch:=first|omega|(simp;omega)) [z9a]
 rw[z6d]
 refine⟨by simp,fun h=> ?_,fun h=> ?_⟩<;>simp at h
 ·generalize hs:s.add (m.take k)=s' at*
  generalize hr:m.drop k=r at*
  have hrl:r.length=m.length-k:=by rw[←hr];simp
  have hn:s'.n.toNat% 64<64:=Nat.mod_lt _ (by decide)
  simp(disch:=first|omega|(simp;omega)) [z9a,z5L,z0vc,z12c,z4Yc,z8jb,z6fc,z7Xb,hb']
  refine⟨by omega,by omega,by omega,?_⟩
  refine z4a fun Q2 hQ2=> ?_
  generalize hj:min r.length (64-s'.n.toNat% 64)=j at*
  have hjl:j≤r.length:=by omega
  have hpiece:=z9Za s' hb' j (r.take j) (by simp;omega) (by omega)
  have hstep:s.add (m.take (k+j))=s'.add (r.take j):=by rw[List.take_add,z6aa,hs,hr]
  have hrest:(r.drop j).take (r.length-j)=m.drop (k+j):=by
   rw[List.take_of_length_le (by simp),←hr,List.drop_drop]
  have hof:UInt64.ofInt (j:Int)=UInt64.ofNat j:=by
   apply UInt64.toNat_inj.1
   rw[z1Ja,UInt64.toNat_ofNat']
   omega
  rw[z6d]
  refine⟨by simp,fun h30=> ?_,fun h30=> ?_⟩<;>simp at h30
  ·generalize hS:(⟨s'.h,_,_⟩:z4w)=S at*
   have hSb:S.b.length=64:=by rw[←hS];simp[hb'];omega
   simp(disch:=first|omega|(simp;omega)) [h4,z4Na,z5L,z12c,z4Yc,z8jb,hSb]
   refine⟨⟨_,_,_,hSb,rfl,rfl,rfl⟩,?_⟩
   simp[hQ2,hQ1]
   refine⟨k+j,by omega,by omega,hrest,?_⟩
   rw[hstep,hpiece,if_pos (by omega),←hS,hof]
  ·simp[hQ2,hQ1]
   refine⟨k+j,by omega,by omega,hrest,?_⟩
   rw[hstep,hpiece,if_neg (by omega),hof]
 ·have e:k=m.length:=by omega
  subst e
  have hm:(s.add m).b.length=64:=by rw[z7Ma,hb]
  simp[hQ1,hQ0,z5L hm,z1fb hm z8Ib,z49b hm]
end Go.Abs
end

section
namespace Go.Abs
theorem z9Od:kc.length=64:=rfl
def z3ub (s:List UInt32) (v e:List UInt32):Nat→List UInt32
 |0=>s
 |t+1=>((z3ub s v e t).set t (z6p (z3ub s v e t) t+z6p v t)).set (t+4) (z6p ((z3ub s v e t).set t (z6p (z3ub s v e t) t+z6p v t)) (t+4)+z6p e t)
theorem z9Jb (s v e:List UInt32):∀t,(z3ub s v e t).length=s.length
 |0=>rfl
 |t+1=>by simp[z3ub,z9Jb s v e t]
theorem z6Pd (s v:H8):z3ub s.l [v.a,v.b,v.c,v.d] [v.e,v.f,v.g,v.h] 4=(s.add v).l:=rfl

theorem z0Ac (E:Env) (hT:E.T 0=z6o kc) (h10:E.G 10=z40) (h11:E.G 11=z8Jc):∀ds,z4Na.pre ds→ds.length=z2t.n∧awp E z2t.body (z0m z2t.res (z4Na.post ds)) (z3b z2t.wr ds):=by
 rintro _ ⟨s,nl,b,hb,rfl⟩
 have hl:=z4q b 64
 have hk:=z9Od
 simp(disch:=first|omega|(simp;omega)) [z2t,h10,h11,z40,z8Jc,z4Na,hT]
 refine⟨hb,hl,by omega,?_⟩
 refine z4a fun Q0 hQ0=> ?_
 refine z4e (fun t:Nat=>⟨[(0,.agg (z6o s.l)),(1,.sl .plain nl 64 (bys b))],
   [(2,.bp 2 0),(4,.bp 4 0),(5,.bp 5 0),(6,.bp 6 0),(7,.bp 7 0),(21,.agg (z6o kc)),(22,i64 t)],
   [(2,some (z6o s.l)),(4,some (z6o (z6i 8))),(5,some (z6o (z9j b 64))),
    (6,some (z6o [(z92a (z9j b 64) s t).a,(z92a (z9j b 64) s t).b,(z92a (z9j b 64) s t).c,(z92a (z9j b 64) s t).d])),
    (7,some (z6o [(z92a (z9j b 64) s t).e,(z92a (z9j b 64) s t).f,(z92a (z9j b 64) s t).g,(z92a (z9j b 64) s t).h]))]⟩)
  (fun t=>64-t) (· ≤64) 0 ?_ (by decide) fun t ht=> ?_
 ·have e:kc.take 64=kc:=rfl
  simp(disch:=simp[hl]) [z8a,z92a,H8.l,e]
 refine z4a fun Q1 hQ1=> ?_
 simp(disch:=first|omega|(simp;omega)) [z9a]
 rw[z6d]
 refine⟨by simp,fun h=> ?_,fun h=> ?_⟩<;>simp at h
 ·generalize hr:z92a (z9j b 64) s t=r at*
  simp(maxSteps:=2000000) (disch:=first|omega|(simp;omega)) [z9a,z0Va,h11,z8Jc,z5rd,z9Xc,z1ad,z4od,z5cd,z3dd,z51,z9Sa,hl,hk,z8a]
  repeat' (first|omega|apply And.intro)
  rw[hQ1]
  simp[z0Va]
  refine⟨t+1,by omega,by omega,by omega,?_⟩
  have sf:∀a b c d x y z w:z2a,splice [a,b,c,d] 0 [x,y,z,w]=[x,y,z,w]:=fun a b c d x y z w=>rfl
  simp only[z92a,hr,sf,rnd,and_self]
 ·have e:t=64:=by omega
  subst e
  simp[hQ1,hQ0]
  refine z4a fun Q2 hQ2=> ?_
  generalize hv:z92a (z9j b 64) s 64=v at*
  refine z4e (fun t:Nat=>⟨[(0,.agg (z6o s.l)),(1,.sl .plain nl 64 (bys b))],
   [(2,.bp 2 0),(4,.bp 4 0),(6,.bp 6 0),(7,.bp 7 0),(94,i64 t)],
   [(2,some (z6o (z3ub s.l [v.a,v.b,v.c,v.d] [v.e,v.f,v.g,v.h] t))),(4,some (z6o (z6i 8))),(5,some (z6o (z9j b 64))),
    (6,some (z6o [v.a,v.b,v.c,v.d])),(7,some (z6o [v.e,v.f,v.g,v.h]))]⟩)
   (fun t=>4-t) (· ≤4) 0 rfl (by decide) fun t ht=> ?_
  refine z4a fun Q3 hQ3=> ?_
  simp(disch:=first|omega|(simp;omega)) [z9a]
  rw[z6d]
  have ha:=z9Jb s.l [v.a,v.b,v.c,v.d] [v.e,v.f,v.g,v.h] t
  rw[H8.len] at ha
  refine⟨by simp,fun h=> ?_,fun h=> ?_⟩<;>simp at h
  ·simp(disch:=first|omega|(simp;omega)) [z9a,z51,z1C]
   repeat' (first|omega|apply And.intro)
   have e4:((t:Int)+4).toNat=t+4:=by omega
   rw[e4,z1C (by rw[List.length_set,ha];omega),hQ3]
   simp
   exact⟨t+1,by omega,by omega,by omega,rfl⟩
  ·have e:t=4:=by omega
   subst e
   simp[hQ3,hQ2,z6Pd,z8a,z8pb,hv]
   rfl
end Go.Abs
end

section
namespace Go.Abs
theorem z3wd (E:Env) (h1:E.G 1=z6Ob):∀ds,z08b.pre ds→ds.length=z5o.n∧awp E z5o.body (z0m z5o.res (z08b.post ds)) (z3b z5o.wr ds):=by
 rintro _ ⟨s,hb,hn,rfl⟩
 simp(disch:=first|omega|(simp;omega)) [z5o,h1,z6Ob,z08b,z4w.v,hb,z5L,z4w.of_scs,z0vc]
 refine z4a fun Q0 hQ0=> ?_
 refine z4e (fun k:Nat=>⟨[(0,.agg (scs s))],[(1,.bp 1 0),(2,.bp 2 0),(3,u64 (8*s.n)),(4,.sl (.own 1) (some false) (k+1) (bys (128::z9c k)))],
   [(1,some (scs s)),(2,some (bys (z9c 32)))]⟩)
  (fun k=>z74a s.n.toNat-k) (· ≤z74a s.n.toNat) 0 rfl (by simp) fun k hk=> ?_
 have hz:=z7wb s.n.toNat
 have hzo:=z7vb s.n.toNat
 refine z4a fun Q1 hQ1=> ?_
 simp(disch:=first|omega|(simp;omega)) [z9a,z5L,z0vc,hb]
 rw[z6d]
 refine⟨by simp,fun h=> ?_,fun h=> ?_⟩<;>simp at h<;>rw[Int.tmod_eq_emod_of_nonneg (by omega)] at h
 ·simp(disch:=first|omega|(simp;omega)) [z9a,hQ1]
  clear hQ0 hQ1
  refine⟨by omega,?_⟩
  refine⟨k+1,by omega,by omega,by omega,?_⟩
  rw[show [u8 0]=bys [0] from rfl,←z9s,←z91a]
  simp
 ·have e:k=z74a s.n.toNat:=by omega
  subst e
  simp[hQ1,hQ0]
  refine z4a fun Q2 hQ2=> ?_
  refine z4e (fun i:Nat=>⟨[(0,.agg (scs s))],[(1,.bp 1 0),(2,.bp 2 0),(3,u64 (8*s.n)),(4,.sl (.own 1) (some false) (z74a s.n.toNat+1+i) (bys (128::z9c (z74a s.n.toNat)++be8 (8*s.n) i))),(23,i64 i)],
    [(1,some (scs s)),(2,some (bys (z9c 32)))]⟩)
   (fun i=>8-i) (· ≤8) 0 (by simp[be8]) (by decide) fun i hi=> ?_
  have hbe:=z7Ga (8*s.n) i
  refine z4a fun Q3 hQ3=> ?_
  simp(disch:=first|omega|(simp;omega)) [z9a]
  rw[z6d]
  refine⟨by simp,fun h=> ?_,fun h=> ?_⟩<;>simp at h
  ·have e7:((56:Int)-8*(i:Int)).toNat=56-8*i:=by omega
   simp(disch:=first|omega|(simp;omega)) [z9a,e7]
   repeat' (first|omega|apply And.intro)
   rw[hQ3]
   simp
   refine⟨i+1,by omega,by omega,⟨by omega,?_⟩,by omega⟩
   rw[be8,show [u8 (z5J (8*s.n) (56-8*i)).toUInt8]=bys [(z5J (8*s.n) (56-8*i)).toUInt8] from rfl,←z9s]
   simp
  ·have e:i=8:=by omega
   subst e
   simp(disch:=first|omega|(simp;omega)) [hQ3,hQ2,h1,z6Ob,z4w.v,z5L,z49b,z1fb,hb,z4w.of_scs,z7Ma]
   generalize hS:s.add (128::(z9c (z74a s.n.toNat)++be8 (8*s.n) 8))=S at*
   have hSb:S.b.length=64:=by rw[←hS,z7Ma,hb]
   have hsum:s.sum=z1Sb S.h 32:=by rw[←hS];rfl
   rw[z1fb hSb (z5L hb),hsum]
   clear hQ1 hQ2 hQ3 hQ0
   refine⟨?_,⟨s,hb,rfl⟩,z5L hSb,?_⟩
   ·have:=z7Ga (8*s.n) 8
    simp[this]
   refine z4a fun Q4 hQ4=> ?_
   refine z4e (fun i:Nat=>⟨[(0,.agg (scs s))],[(1,.bp 1 0),(2,.bp 2 0),(6,.bp 6 0),(40,i64 i)],
     [(1,some (scs S)),(2,some (bys (z9c 32))),(6,some (bys (z1Sb S.h i++z9c (32-i))))]⟩)
    (fun i=>32-i) (· ≤32) 0 rfl (by decide) fun i hi=> ?_
   have ho:=z0Fa S.h i
   refine z4a fun Q5 hQ5=> ?_
   simp(disch:=first|omega|(simp;omega)) [z9a]
   rw[z6d]
   refine⟨by simp,fun h=> ?_,fun h=> ?_⟩<;>simp at h
   ·have e4:(i:Int).tmod 4=((i% 4:Nat):Int):=by rw[Int.tmod_eq_emod_of_nonneg (by omega)];rfl
    have e5:((i:Int)/4).toNat=i/4:=by omega
    have e6:((24:Int)-8*((i% 4:Nat):Int)).toNat=24-8*(i% 4):=by omega
    simp(disch:=first|omega|(simp;omega)) [z9a,e4,e5,z2Ad,z5L hSb]
    refine⟨by omega,by omega,by omega,by omega,by omega,?_⟩
    have e7:((24:Int)-8*((i:Int)% 4)).toNat=24-8*(i% 4):=by omega
    rw[e7,z4Ma (by simp;omega),z5ab (by omega),z60a ho.symm,hQ5]
    simp
    refine⟨i+1,by omega,by omega,by omega,?_⟩
    rw[z1Sb,show 32-(i+1)=32-1-i by omega]
    simp
   ·have e:i=32:=by omega
    subst e
    simp(disch:=simp[ho]) [hQ5,hQ4,z8a,ho,List.take_of_length_le,z9c]
end Go.Abs
end

section
namespace Go.Abs
def z3hc:ItC:=z6wb z1Ma
theorem z4ed (E:Env) (h303:E.G 303=z1Ma):∀x y l,z3hc.pre x y→x.length=z0f.nx∧y.length=z0f.ny∧z0ga E l (z3hc.el x y) z0f.body (itQ (z3hc.el x y)) (0,false) (z57b l [] x y):=z4cc E z1Ma h303
end Go.Abs
end

section
namespace Go.Abs
theorem z62d (E:Env) (h0:E.G 0=z1ra) (h1:E.G 1=z6Ob) (h2:E.G 2=z08b) (h7:E.G 7=z7ia):∀ds,ofC.pre ds→ds.length=z4da.n∧awp E z4da.body (z0m z4da.res (ofC.post ds)) (z3b z4da.wr ds):=by
 rintro _ ⟨tag,nl,parts,hl,rfl⟩
 simp(maxSteps:=1000000) (disch:=first|omega|(simp;done)|(simp;omega)) [z9a,z1a,z0a,z4da,h0,h1]
 refine z4a fun Q0 hQ0=> ?_
 refine z4e (fun i:Nat=>⟨[(0,i64 tag),(1,.sl .plain nl parts.length (sts parts))],[(4,.bp 4 0),(5,.bp 5 0),(15,.sl .plain nl parts.length (sts parts)),(16,i64 parts.length),(17,i64 i)],
   [(4,some (bys (z9c 16))),(5,some (svc (z7l tag (parts.take i))))]⟩)
  (fun i=>parts.length-i) (· ≤parts.length) 0 rfl (by simp) fun i hi=> ?_
 have hlen:=z1Aa parts
 refine z4a fun Q1 hQ1=> ?_
 simp(maxSteps:=1000000) (disch:=first|omega|(simp;done)|(simp;omega)) [z9a,z1a,z0a]
 rw[z6d]
 refine⟨by simp,fun h=> ?_,fun h=> ?_⟩<;>simp at h
 ·have hb:=z6Sa (l:=parts) (i:=i) (by omega)
  simp(maxSteps:=1000000) (disch:=first|omega|(simp;done)|(simp;omega)) [z9a,z1a,z0a,z2Ec,h7,h1,z6Aa]
  repeat' (first|omega|apply And.intro)
  simp[hQ1]
  refine⟨i+1,by omega,by omega,by omega,?_⟩
  rw[z7l,z7l,z7s _ _ [] (by omega)]
  rfl
 ·have e:i=parts.length:=by omega
  subst e
  have hi:(z7l tag parts).length<1099511627776:=by
   have:=z0C hl
   simp only[z7l,List.length_cons];omega
  simp(maxSteps:=1000000) (disch:=first|omega|(simp;done)|(simp;omega)) [z9a,z1a,z0a,hQ1,hQ0,h2,z0Vc,z4l]
  rw[z4j,List.take_take,Nat.min_self]
end Go.Abs
end

section
namespace Go.Abs
set_option maxRecDepth 100000
def z3o:z6e:=
 {n:=2,wr:=[],res:=[.cell 4 (some 16) 4],body:=YR [4] [.norm [4]] [Yz 4 4 16] (YR [4] [.norm [4]] [Ym 5 0,Ym 6 1,YK 7 21 5 6,Yk 8 28 7,Ys 16 4 4 8] .ret)}
def z8k:z6e:=
 {n:=2,wr:=[],res:=[.t 4],body:=Yr [] [Yo 4 (.mv true (.c (.sl (.own 1) none 0 [])))] (Yr [5] [Ym 7 0,Yo 8 (.toInt .u8 (.s 7)),Yo 9 (.buildSl 1 1 [u8 0] [(0,1,.s 8)]),YM 5 9] (Yq (Yr [5,6] [Yc 6 0] (.block 0 (.loop (Yq (Yr [5,6,13] [Ym 10 6,Ym 11 1,Yn 12 11,Yb 13 .lss 10 12] (Yd 13 (Yy [5,6]) (YY [5]))) (Yq (.block 1 (Yu [5,6] [YM 16 5,Ym 17 1,Ym 18 6,Yi 19 1 17 18,Yj 20 19,Yk 21 29 20,Yo 22 (.append 1 1 false (some false) none 16 (.s 21)),YM 5 22])) (Yu [5,6] [Ym 14 6,YB 15 .add 14 1,Ym 6 15])))))) (Yr [4] [YM 23 5,YM 4 23] .ret)))}
def z1j:z6e:=
 {n:=1,wr:=[],res:=[.t 2],body:=YR [1] [.norm [1]] [Yx 1 1 16 0,Yo 2 (.mv false (.c (st [])))] (Yr [1,3] [Yo 3 (.mv true (.c (.sl (.own 1) none 0 [])))] (Yq (Yr [1,3,4] [Yc 4 0] (.block 0 (.loop (Yq (Yr [1,3,4,6] [Ym 5 4,YB 6 .lss 5 16] (Yd 6 (Yy [1,3,4]) (YY [3]))) (Yq (.block 1 (.region [1,3,4] [.norm [1]] [YM 9 3,Ym 10 4,Ya 11 16 1 1 10,Yl 12 1 11,Yo 13 (.buildSl 1 1 [u8 0] [(0,1,.s 12)]),Yo 14 (.append 1 1 false none none 9 (.s 13)),YM 3 14])) (Yu [1,3,4] [Ym 7 4,YB 8 .add 7 1,Ym 4 8])))))) (Yr [2] [YM 15 3,Yo 16 (.toStr none (.s 15)),Ym 2 16] .ret)))}
def z6j:z6e:=
 {n:=1,wr:=[],res:=[.t 2],body:=Yr [] [Yo 2 (.mv true (.c (.sl (.own 1) none 0 [])))] (Yr [3] [Yo 6 (.buildSl 1 0 [] []),Ym 7 0,Yo 8 (.append 1 1 false (some false) none 6 (.s 7)),YM 3 8] (Yr [3] [YM 9 3,Yo 10 (.buildSl 1 1 [u8 0] [(0,1,.c (u8 128))]),Yo 11 (.append 1 1 false (some false) none 9 (.s 10)),YM 3 11] (Yq (.block 0 (.loop (Yq (Yr [3,15] [Ym 12 3,Yn 13 12,YB 14 .rem 13 64,YB 15 .neq 14 56] (Yd 15 (Yy [3]) (YY [3]))) (.block 1 (Yu [3] [YM 16 3,Yo 17 (.buildSl 1 1 [u8 0] [(0,1,.c (u8 0))]),Yo 18 (.append 1 1 false (some false) none 16 (.s 17)),YM 3 18]))))) (Yr [3,4] [Ym 19 0,Yn 20 19,Yo 21 (.toInt .u64 (.s 20)),Yo 22 (.bin .mul (.c (u64 8)) (.s 21)),Ym 4 22] (Yq (Yr [3,4,5] [Yc 5 0] (.block 2 (.loop (Yq (Yr [3,4,5,24] [Ym 23 5,YB 24 .lss 23 8] (Yd 24 (Yy [3,4,5]) (.ghost (.keep [3]) (.exit 2)))) (Yq (.block 3 (Yu [3,4,5] [YM 27 3,Ym 28 4,Ym 29 5,Yo 30 (.bin .mul (.c (i64 8)) (.s 29)),Yo 31 (.bin .sub (.c (i64 56)) (.s 30)),Yb 32 .shr 28 31,Yo 33 (.toInt .u8 (.s 32)),Yo 34 (.buildSl 1 1 [u8 0] [(0,1,.s 33)]),Yo 35 (.append 1 1 false (some false) none 27 (.s 34)),YM 3 35])) (Yu [3,4,5] [Ym 25 5,YB 26 .add 25 1,Ym 5 26])))))) (Yr [2] [YM 36 3,YM 2 36] .ret))))))}
def z6k:z6e:=
 {n:=1,wr:=[],res:=[.cell 2 (some 64) 2],body:=YR [2] [.norm [2]] [Yo 2 (.alloc 2 (z6o (z6i 64)))] (YR [2,3] [.norm [2,3]] [Yo 3 (.alloc 3 (z6o (z6i 64)))] (Yq (Yr [2,3,4] [Yc 4 0] (.block 0 (.loop (Yq (Yr [2,3,4,9] [Ym 8 4,YB 9 .lss 8 16] (Yd 9 (Yy [2,3,4]) (YY [2,3]))) (Yq (.block 1 (.region [2,3,4] [.norm [2,3]] [Ym 12 4,Ym 13 0,Ym 14 4,Yo 15 (.bin .mul (.c (i64 4)) (.s 14)),Yi 16 1 13 15,Yj 17 16,Yo 18 (.toInt .u32 (.s 17)),Yo 19 (.bin .shl (.s 18) (.c (u64 24))),Ym 20 0,Ym 21 4,Yo 22 (.bin .mul (.c (i64 4)) (.s 21)),YB 23 .add 22 1,Yi 24 1 20 23,Yj 25 24,Yo 26 (.toInt .u32 (.s 25)),Yo 27 (.bin .shl (.s 26) (.c (u64 16))),Yb 28 .or 19 27,Ym 29 0,Ym 30 4,Yo 31 (.bin .mul (.c (i64 4)) (.s 30)),YB 32 .add 31 2,Yi 33 1 29 32,Yj 34 33,Yo 35 (.toInt .u32 (.s 34)),Yo 36 (.bin .shl (.s 35) (.c (u64 8))),Yb 37 .or 28 36,Ym 38 0,Ym 39 4,Yo 40 (.bin .mul (.c (i64 4)) (.s 39)),YB 41 .add 40 3,Yi 42 1 38 41,Yj 43 42,Yo 44 (.toInt .u32 (.s 43)),Yb 45 .or 37 44,Ya 46 64 1 3 12,YS 3 46 45])) (Yu [2,3,4] [Ym 10 4,YB 11 .add 10 1,Ym 4 11])))))) (Yq (Yr [2,3,5] [Yc 5 16] (.block 2 (.loop (Yq (Yr [2,3,5,48] [Ym 47 5,YB 48 .lss 47 64] (Yd 48 (Yy [2,3,5]) (.ghost (.keep [2,3]) (.exit 2)))) (Yq (.block 3 (YR [2,3,5,6] [.norm [2,3]] [Ym 51 5,YB 52 .sub 51 15,Ya 53 64 1 3 52,Yl 54 3 53,Yo 55 (.call 26 [.s 54,.c (i64 7)] []),Ym 56 5,YB 57 .sub 56 15,Ya 58 64 1 3 57,Yl 59 3 58,Yo 60 (.call 26 [.s 59,.c (i64 18)] []),Yb 61 .xor 55 60,Ym 62 5,YB 63 .sub 62 15,Ya 64 64 1 3 63,Yl 65 3 64,Yo 66 (.bin .shr (.s 65) (.c (u64 3))),Yb 67 .xor 61 66,Ym 6 67] (YR [2,3,5,6,7] [.norm [2,3]] [Ym 68 5,YB 69 .sub 68 2,Ya 70 64 1 3 69,Yl 71 3 70,Yo 72 (.call 26 [.s 71,.c (i64 17)] []),Ym 73 5,YB 74 .sub 73 2,Ya 75 64 1 3 74,Yl 76 3 75,Yo 77 (.call 26 [.s 76,.c (i64 19)] []),Yb 78 .xor 72 77,Ym 79 5,YB 80 .sub 79 2,Ya 81 64 1 3 80,Yl 82 3 81,Yo 83 (.bin .shr (.s 82) (.c (u64 10))),Yb 84 .xor 78 83,Ym 7 84] (.region [2,3,5] [.norm [2,3]] [Ym 85 5,Ym 86 5,YB 87 .sub 86 16,Ya 88 64 1 3 87,Yl 89 3 88,Ym 90 6,Yb 91 .add 89 90,Ym 92 5,YB 93 .sub 92 7,Ya 94 64 1 3 93,Yl 95 3 94,Yb 96 .add 91 95,Ym 97 7,Yb 98 .add 96 97,Ya 99 64 1 3 85,YS 3 99 98])))) (Yu [2,3,5] [Ym 49 5,YB 50 .add 49 1,Ym 5 50])))))) (YR [2] [.norm [2,3]] [YL 100 64 3 3,Ys 64 2 2 100] .ret))))}
def z6l:z6e:=
 {n:=2,wr:=[],res:=[.t 4],body:=Yr [] [Yo 4 (.mv false (.c (u32 0)))] (Yr [4] [Ym 5 0,Ym 6 1,Yb 7 .shr 5 6,Ym 8 0,Ym 9 1,Yo 10 (.bin .sub (.c (i64 32)) (.s 9)),Yb 11 .shl 8 10,Yb 12 .or 7 11,Ym 4 12] .ret)}
def z9k:z6e:=
 {n:=1,wr:=[],res:=[.cell 2 (some 16) 2],body:=YR [2] [.norm [2]] [Yz 2 2 16] (YR [2,3] [.norm [2,3]] [Ym 6 0,Yk 7 15 6,Yz 3 3 32,Ys 32 3 3 7] (YR [2,3,4] [.norm [2,3,4]] [Yo 8 (.build (bys (z9c 16)) []),Yz 4 4 16,Ys 16 4 4 8] (Yq (Yr [2,3,4,5] [Yc 5 0] (.block 0 (.loop (Yq (Yr [2,3,4,5,10] [Ym 9 5,YB 10 .lss 9 16] (Yd 10 (Yy [2,3,4,5]) (YY [2,4]))) (Yq (.block 1 (.region [2,3,4,5] [.norm [2,3,4]] [Ym 13 5,Ym 14 5,Ya 15 32 1 3 14,Yl 16 3 15,Ya 17 16 1 4 13,YS 4 17 16])) (Yu [2,3,4,5] [Ym 11 5,YB 12 .add 11 1,Ym 5 12])))))) (YR [2] [.norm [2,3,4]] [YL 18 16 4 4,Ys 16 2 2 18] .ret))))}
def z8h:z6e:=
 {n:=1,wr:=[],res:=[.t 2],body:=Yr [] [Yo 2 (.mv true (.c (.sl (.own 1) none 0 [])))] (Yr [2] [Ym 3 0,Yo 4 (.len true (.s 3)),Yk 5 30 4,Ym 6 0,Yo 7 (.toBytes (.s 6)),Yo 8 (.append 1 1 false none none 5 (.s 7)),YM 2 8] .ret)}
end Go.Abs
end

section
namespace Go.Abs
theorem z37c (E:Env):∀ds,z4fb.pre ds→ds.length=z6l.n∧awp E z6l.body (z0m z6l.res (z4fb.post ds)) (z3b z6l.wr ds):=by
 rintro _ ⟨x,n,h0,h1,rfl⟩
 simp(maxSteps:=1000000) (disch:=first|omega|(simp;done)|(simp;omega)) [z9a,z1a,z0a,z6l]
 refine⟨by omega,by omega,?_⟩
 rw[z71,show((32:Int)-n).toNat=32-n.toNat by omega]
theorem z0ac (E:Env):∀ds,z0pa.pre ds→ds.length=z1j.n∧awp E z1j.body (z0m z1j.res (z0pa.post ds)) (z3b z1j.wr ds):=by
 rintro _ ⟨b,hb,rfl⟩
 simp(maxSteps:=1000000) (disch:=first|omega|(simp;done)|(simp;omega)) [z9a,z1a,z0a,z1j,hb]
 refine z4a fun Q0 hQ0=> ?_
 refine z4e (fun i:Nat=>⟨[(0,.agg (bys b))],[(1,.bp 1 0),(3,.sl (.own 1) none i (bys (b.take i))),(4,i64 i)],[(1,some (bys b))]⟩) (fun i=>16-i) (· ≤16) 0 rfl (by simp) fun i hi=> ?_
 refine z4a fun Q1 hQ1=> ?_
 simp(maxSteps:=1000000) (disch:=first|omega|(simp;done)|(simp;omega)) [z9a,z1a,z0a]
 rw[z6d]
 refine⟨by simp,fun h=> ?_,fun h=> ?_⟩<;>simp at h
 ·have hi':i<b.length:=by omega
  simp(maxSteps:=1000000) (disch:=first|omega|(simp;done)|(simp;omega)) [z9a,z1a,z0a,z95a]
  repeat' (first|omega|apply And.intro)
  rw[hQ1]
  simp
  exact⟨i+1,by omega,by omega,⟨by omega,(z8ud hi').symm⟩,by omega⟩
 ·have e:i=16:=by omega
  subst e
  simp[hQ1,hQ0,List.take_of_length_le,hb]
theorem z2xc (E:Env) (h15:E.G 15=z6jb):∀ds,z5Na.pre ds→ds.length=z9k.n∧awp E z9k.body (z0m z9k.res (z5Na.post ds)) (z3b z9k.wr ds):=by
 rintro _ ⟨nl,b,hb,rfl⟩
 have hs:=z5Ta b
 simp(maxSteps:=1000000) (disch:=first|omega|(simp;done)|(simp;omega)) [z9a,z1a,z0a,z9k,h15,z5lc,z4l]
 refine z4a fun Q0 hQ0=> ?_
 refine z4e (fun i:Nat=>⟨[(0,.sl .plain nl b.length (bys b))],[(2,.bp 2 0),(3,.bp 3 0),(4,.bp 4 0),(5,i64 i)],
  [(2,some (bys (z9c 16))),(3,some (bys (sha b))),(4,some (bys ((sha b).take i++z9c (16-i))))]⟩) (fun i=>16-i) (· ≤16) 0 rfl (by simp) fun i hi=> ?_
 refine z4a fun Q1 hQ1=> ?_
 simp(maxSteps:=1000000) (disch:=first|omega|(simp;done)|(simp;omega)) [z9a,z1a,z0a]
 rw[z6d]
 refine⟨by simp,fun h=> ?_,fun h=> ?_⟩<;>simp at h
 ·have hi':i<(sha b).length:=by omega
  have hz:(z9c (16-i)).set 0 (at8 (sha b) i)=at8 (sha b) i::z9c (16-(i+1)):=by
   rw[z5ab (by omega),show 16-(i+1)=16-1-i by omega];rfl
  simp(maxSteps:=1000000) (disch:=first|omega|(simp;done)|(simp;omega)) [z9a,z1a,z0a,z95a,z4Ma,List.set_append_right]
  repeat' (first|omega|apply And.intro)
  simp only[hs,Nat.min_eq_left (show i≤32 by omega),Nat.sub_self,hz,hQ1]
  simp
  refine⟨i+1,by omega,by omega,by omega,?_⟩
  rw[z8ud hi']
  simp
 ·have e:i=16:=by omega
  subst e
  simp[hQ1,hQ0,hs,z9c,z4l,List.take_of_length_le]
theorem z2Pd (E:Env) (h21:E.G 21=z9Ma) (h28:E.G 28=z5Na):∀ds,z0vb.pre ds→ds.length=z3o.n∧awp E z3o.body (z0m z3o.res (z0vb.post ds)) (z3b z3o.wr ds):=by
 rintro _ ⟨tag,nl,l,hl,rfl⟩
 have h1:=z0C (l:=l) (by omega)
 have h2:(z7l tag l).length<1099511000000:=by simp only[z7l,List.length_cons];omega
 simp(maxSteps:=1000000) (disch:=first|omega|(simp;done)|(simp;omega)) [z9a,z1a,z0a,z3o,h21,h28,z7Zb,z3Zb,z4l,z4j,List.take_take]
theorem z16b (E:Env) (h30:E.G 30=z2ob):∀ds,z4ra.pre ds→ds.length=z8h.n∧awp E z8h.body (z0m z8h.res (z4ra.post ds)) (z3b z8h.wr ds):=by
 rintro _ ⟨s,hs,rfl⟩
 have hl:=z2s (n:=s.length) ⟨by omega,by omega⟩
 simp(maxSteps:=1000000) (disch:=first|omega|(simp;done)|(simp;omega)) [z9a,z1a,z0a,z8h,h30,z8rc,z5N]
 omega
theorem z3kc (E:Env) (h29:E.G 29=z4ra):∀ds,z9Ma.pre ds→ds.length=z8k.n∧awp E z8k.body (z0m z8k.res (z9Ma.post ds)) (z3b z8k.wr ds):=by
 rintro _ ⟨tag,nl,l,hl,rfl⟩
 have hn:=z1Aa l
 simp(maxSteps:=1000000) (disch:=first|omega|(simp;done)|(simp;omega)) [z9a,z1a,z0a,z8k]
 refine z4a fun Q0 hQ0=> ?_
 refine z4e (fun i:Nat=>⟨[(0,i64 tag),(1,.sl .plain nl l.length (sts l))],[(5,.sl (.own 1) (some false) (z7l tag (l.take i)).length (bys (z7l tag (l.take i)))),(6,i64 i)],[]⟩) (fun i=>l.length-i) (· ≤l.length) 0 rfl (by simp) fun i hi=> ?_
 refine z4a fun Q1 hQ1=> ?_
 simp(maxSteps:=1000000) (disch:=first|omega|(simp;done)|(simp;omega)) [z9a,z1a,z0a]
 rw[z6d]
 refine⟨by simp,fun h=> ?_,fun h=> ?_⟩<;>simp at h
 ·have hi':i<l.length:=by omega
  have h3:=z6Sa hi'
  have h5:z7l tag (l.take (i+1))=z7l tag (l.take i)++z5N (atS l i):=by rw[z7l,z7l,z7s _ _ [] hi'];rfl
  have h6:(z7l tag (l.take i)).length+(z5N (atS l i)).length≤1099511627776:=by
   rw[←List.length_append,←h5,z7l,List.length_cons]
   have:=z0C (l:=l.take (i+1)) (by have:=z1nb l (i+1);omega)
   have:=z1nb l (i+1)
   omega
  simp(maxSteps:=1000000) (disch:=first|omega|(simp;done)|(simp;omega)) [z9a,z1a,z0a,z2Ec,h29,z3Vb]
  refine⟨hi',by omega,h6,?_⟩
  simp[hQ1]
  refine⟨i+1,by omega,by omega,⟨?_,?_⟩,by omega⟩<;>rw[h5]
  simp
 ·have e:i=l.length:=by omega
  subst e
  simp[hQ1,hQ0]
end Go.Abs
end

section
namespace Go.Abs
set_option maxRecDepth 100000
def z1P:z3a:=
 Yq (.block 3 (YR [2,3,4,5,6,7,8,9] [.norm [2,3,6,7]] [YA 34 8 1 7 7,Yl 35 7 34,YA 36 8 1 7 4,Yl 37 7 36,Yo 38 (.call 26 [.s 37,.c (i64 6)] []),YA 39 8 1 7 4,Yl 40 7 39,Yo 41 (.call 26 [.s 40,.c (i64 11)] []),Yb 42 .xor 38 41,YA 43 8 1 7 4,Yl 44 7 43,Yo 45 (.call 26 [.s 44,.c (i64 25)] []),Yb 46 .xor 42 45,Yb 47 .add 35 46,YA 48 8 1 7 4,Yl 49 7 48,YA 50 8 1 7 5,Yl 51 7 50,Yb 52 .and 49 51,YA 53 8 1 7 4,Yl 54 7 53,Yo 55 (.bin .xor (.s 54) (.c (u32 4294967295))),YA 56 8 1 7 6,Yl 57 7 56,Yb 58 .and 55 57,Yb 59 .xor 52 58,Yb 60 .add 47 59,Ym 61 8,Yo 62 (.idxArr 64 1 (.g 1) (.s 61)),Yj 63 62,Yb 64 .add 60 63,Ym 65 8,Ya 66 64 1 6 65,Yl 67 6 66,Yb 68 .add 64 67,Ym 9 68] (YR [2,3,4,5,6,7,8,9,10] [.norm [2,3,6,7]] [YA 69 8 1 7 0,Yl 70 7 69,Yo 71 (.call 26 [.s 70,.c (i64 2)] []),YA 72 8 1 7 0,Yl 73 7 72,Yo 74 (.call 26 [.s 73,.c (i64 13)] []),Yb 75 .xor 71 74,YA 76 8 1 7 0,Yl 77 7 76,Yo 78 (.call 26 [.s 77,.c (i64 22)] []),Yb 79 .xor 75 78,YA 80 8 1 7 0,Yl 81 7 80,YA 82 8 1 7 1,Yl 83 7 82,Yb 84 .and 81 83,YA 85 8 1 7 0,Yl 86 7 85,YA 87 8 1 7 2,Yl 88 7 87,Yb 89 .and 86 88,Yb 90 .xor 84 89,YA 91 8 1 7 1,Yl 92 7 91,YA 93 8 1 7 2,Yl 94 7 93,Yb 95 .and 92 94,Yb 96 .xor 90 95,Yb 97 .add 79 96,Ym 10 97] (.region [2,3,4,5,6,7,8] [.norm [2,3,6,7]] [Ym 98 9,Ym 99 10,Yb 100 .add 98 99,YA 101 8 1 7 0,Yl 102 7 101,YA 103 8 1 7 1,Yl 104 7 103,YA 105 8 1 7 2,Yl 106 7 105,YA 107 8 1 7 3,Yl 108 7 107,Ym 109 9,Yb 110 .add 108 109,YA 111 8 1 7 4,Yl 112 7 111,YA 113 8 1 7 5,Yl 114 7 113,YA 115 8 1 7 6,Yl 116 7 115,Yo 117 (.build [u32 0,u32 0,u32 0,u32 0,u32 0,u32 0,u32 0,u32 0] [(0,1,.s 100),(1,1,.s 102),(2,1,.s 104),(3,1,.s 106),(4,1,.s 110),(5,1,.s 112),(6,1,.s 114),(7,1,.s 116)]),Ys 8 7 7 117])))) (Yu [2,3,4,5,6,7,8] [Ym 32 8,YB 33 .add 32 1,Ym 8 33])
def z6P:z3a:=
 Yq (Yr [2,3,4,5,6,7,8,31] [Ym 30 8,YB 31 .lss 30 64] (Yd 31 (Yy [2,3,4,5,6,7,8]) (.ghost (.keep [2,3,4,5,7]) (.exit 2)))) z1P
def z4P:z3a:=
 Yq (.block 5 (.region [2,3,4,5,7,11] [.norm [2,3,6,7]] [Ym 122 11,Ym 123 11,Ya 124 8 1 3 123,Yl 125 3 124,Ym 126 11,Ya 127 8 1 7 126,Yl 128 7 127,Yb 129 .add 125 128,Ya 130 8 1 3 122,YS 3 130 129])) (Yu [2,3,4,5,7,11] [Ym 120 11,YB 121 .add 120 1,Ym 11 121])
def z0O:z3a:=
 Yq (Yr [2,3,4,5,7,11,119] [Ym 118 11,YB 119 .lss 118 8] (Yd 119 (Yy [2,3,4,5,7,11]) (.ghost (.keep [2,3,4,5]) (.exit 4)))) z4P
def z7N:z3a:=
 Yr [2,3,4,5,7,11] [Yc 11 0] (.block 4 (.loop z0O))
def z2P:z3a:=
 Yq (.block 1 (YR [2,3,4,5,6] [.norm [2,3,6]] [Ym 23 4,Ym 24 5,Ym 25 5,YB 26 .add 25 64,Yo 27 (.slSl 1 (.s 23) (some (.s 24)) (some (.s 26)) none),Yk 28 25 27,Yo 6 (.alloc 6 (z6o (z6i 64))),Ys 64 6 6 28] (YR [2,3,4,5,6,7] [.norm [2,3,6,7]] [YL 29 8 3 3,Yo 7 (.alloc 7 (z6o (z6i 8))),Ys 8 7 7 29] (Yq (Yr [2,3,4,5,6,7,8] [Yc 8 0] (.block 2 (.loop z6P))) z7N)))) (.region [2,3,4,5] [.drop [6,7]] [Ym 21 5,YB 22 .add 21 64,Ym 5 22])
def z8Q:z3a:=
 Yq (Yr [2,3,4,5,20] [Ym 17 5,Ym 18 4,Yn 19 18,Yb 20 .lss 17 19] (Yd 20 (Yy [2,3,4,5]) (YY [2,3]))) z2P
def z3O:z3a:=
 Yq (.block 7 (.region [2,3,12,13] [.norm [2,3,6,7,12]] [Ym 135 13,Ym 136 13,YB 137 .quo 136 4,Ya 138 8 1 3 137,Yl 139 3 138,Ym 140 13,YB 141 .rem 140 4,Yo 142 (.bin .mul (.c (i64 8)) (.s 141)),Yo 143 (.bin .sub (.c (i64 24)) (.s 142)),Yb 144 .shr 139 143,Yo 145 (.toInt .u8 (.s 144)),Ya 146 32 1 12 135,YS 12 146 145])) (Yu [2,3,12,13] [Ym 133 13,YB 134 .add 133 1,Ym 13 134])
def z6O:z3a:=
 Yq (Yr [2,3,12,13,132] [Ym 131 13,YB 132 .lss 131 32] (Yd 132 (Yy [2,3,12,13]) (.ghost (.keep [2,12]) (.exit 6)))) z3O
def z4Q:z3a:=
 YR [2] [.norm [2,3,6,7,12]] [YL 147 32 12 12,Ys 32 2 2 147] .ret
def z2R:z3a:=
 YR [2,3,12] [.norm [2,3,6,7,12]] [Yz 12 12 32] (Yq (Yr [2,3,12,13] [Yc 13 0] (.block 6 (.loop z6O))) z4Q)
def z9m:z6e:=
 {n:=1,wr:=[],res:=[.cell 2 (some 32) 2],body:=YR [2] [.norm [2]] [Yz 2 2 32] (YR [2,3] [.norm [2,3]] [Yo 14 (.build [u32 0,u32 0,u32 0,u32 0,u32 0,u32 0,u32 0,u32 0] [(0,1,.c (u32 1779033703)),(1,1,.c (u32 3144134277)),(2,1,.c (u32 1013904242)),(3,1,.c (u32 2773480762)),(4,1,.c (u32 1359893119)),(5,1,.c (u32 2600822924)),(6,1,.c (u32 528734635)),(7,1,.c (u32 1541459225))]),Yo 3 (.alloc 3 (z6o (z6i 8))),Ys 8 3 3 14] (Yr [2,3,4] [Ym 15 0,Yk 16 24 15,YM 4 16] (Yq (Yr [2,3,4,5] [Yc 5 0] (.block 0 (.loop z8Q))) z2R)))}
def z1R:z3a:=
 .block 1 (Yr [3,4] [YM 16 4,Ym 17 3,YB 18 .rem 17 256,Yo 19 (.toInt .u8 (.s 18)),Yo 20 (.buildSl 1 1 [u8 0] [(0,1,.s 19)]),Yo 21 (.append 1 1 false none none 16 (.s 20)),YM 4 21] (Yu [3,4] [Ym 22 3,YB 23 .quo 22 256,Ym 3 23]))
def z5Q:z3a:=
 Yq (Yr [3,4,15] [Ym 14 3,YB 15 .gtr 14 0] (Yd 15 (Yy [3,4]) (YY [4]))) z1R
def z5O:z3a:=
 Yu [4,6,7] [YM 54 6,Ym 55 8,Yo 56 (.buildSl 1 1 [u8 0] [(0,1,.s 55)]),Yo 57 (.append 1 1 false none none 54 (.s 56)),YM 6 57]
def z1Q:z3a:=
 Yq (.block 3 (Yr [4,6,7,8] [Ym 46 4,Ym 47 7,Yi 48 1 46 47,Yj 49 48,Ym 8 49] (Yq (Yr [4,6,7,8,51] [Ym 50 0,YB 51 .lss 50 0] (Yd 51 (Yu [4,6,7,8] [Ym 52 8,Yo 53 (.bin .sub (.c (u8 255)) (.s 52)),Ym 8 53]) (Yy [4,6,7,8]))) z5O))) (Yu [4,6,7] [Ym 44 7,YB 45 .sub 44 1,Ym 7 45])
def z3P:z3a:=
 Yq (Yr [4,6,7,43] [Ym 42 7,YB 43 .geq 42 0] (Yd 43 (Yy [4,6,7]) (.ghost (.keep [6]) (.exit 2)))) z1Q
def z9N:z3a:=
 Yr [2] [YM 58 6,YM 2 58] .ret
def z7P:z3a:=
 Yq (Yr [4,6,7] [Ym 40 5,YB 41 .sub 40 1,Ym 7 41] (.block 2 (.loop z3P))) z9N
def z3Q:z3a:=
 Yr [4,5] [Ym 24 4,Yn 25 24,Ym 5 25] (Yr [4,5,6] [Yo 6 (.mv true (.c (.sl (.own 1) none 0 [])))] (Yq (Yr [4,5,6,27] [Ym 26 0,YB 27 .geq 26 0] (Yd 27 (Yu [4,5,6] [YM 28 6,Ym 29 5,Yo 30 (.bin .add (.c (i64 128)) (.s 29)),Yo 31 (.toInt .u8 (.s 30)),Yo 32 (.buildSl 1 1 [u8 0] [(0,1,.s 31)]),Yo 33 (.append 1 1 false none none 28 (.s 32)),YM 6 33]) (Yu [4,5,6] [YM 34 6,Ym 35 5,Yo 36 (.bin .sub (.c (i64 127)) (.s 35)),Yo 37 (.toInt .u8 (.s 36)),Yo 38 (.buildSl 1 1 [u8 0] [(0,1,.s 37)]),Yo 39 (.append 1 1 false none none 34 (.s 38)),YM 6 39]))) z7P))
def z7O:z3a:=
 Yr [3,4] [Yo 4 (.mv true (.c (.sl (.own 1) none 0 [])))] (Yq (.block 0 (.loop z5Q)) z3Q)
def z3k:z6e:=
 {n:=1,wr:=[],res:=[.t 2],body:=Yr [] [Yo 2 (.mv true (.c (.sl (.own 1) none 0 [])))] (Yr [3] [Ym 9 0,Ym 3 9] (Yq (Yr [3,11] [Ym 10 0,YB 11 .lss 10 0] (Yd 11 (Yu [3] [Ym 12 0,Yo 13 (.bin .sub (.c (i64 (-1))) (.s 12)),Ym 3 13]) (Yy [3]))) z7O))}
end Go.Abs
end

section
namespace Go.Abs
theorem z0oc {l:List UInt8} {j:Nat} (h:j<l.length):l.reverse.take (j+1)=l.reverse.take j++[at8 l (l.length-1-j)]:=by
 rw[List.take_succ_eq_append_getElem (by simp;omega),at8,List.getD,List.getElem?_eq_getElem (by omega)]
 simp[List.getElem_reverse]
set_option maxHeartbeats 4000000 in
theorem z9Wc (E:Env):∀ds,z2ob.pre ds→ds.length=z3k.n∧awp E z3k.body (z0m z3k.res (z2ob.post ds)) (z3b z3k.wr ds):=by
 rintro _ ⟨n,⟨hn0,hn1⟩,rfl⟩
 simp(maxSteps:=1000000) (disch:=first|omega|(simp;done)|(simp;omega)) [z9a,z1a,z0a,z3k]
 refine z4a fun Q0 hQ0=> ?_
 have key:Q0 .normal ⟨[(0,i64 n)],[(3,i64 (mag n:Nat))],[]⟩:=by
  have hmag:(mag n:Int)=if n<0 then-1-n else n:=by unfold mag;split<;>omega
  have hm63:mag n<9223372036854775808:=by split at hmag<;>omega
  simp(maxSteps:=1000000) (disch:=first|omega|(simp;done)|(simp;omega)) [z9a,z1a,z0a,hQ0,z7O]
  refine z4a fun Q1 hQ1=> ?_
  refine z4e (fun p:Nat×List UInt8=>⟨[(0,i64 n)],[(3,i64 p.1),(4,.sl (.own 1) none p.2.length (bys p.2))],[]⟩) (fun p=>p.1) (fun p=>p.2++z6Ma p.1=z6Ma (mag n)∧p.1<9223372036854775808∧p.2.length≤8) (mag n,[]) rfl (by simp;omega) fun p hp=> ?_
  obtain⟨m,l⟩:=p
  obtain⟨h1,h2,h3⟩:=hp
  simp only at h1 h2 h3
  refine z4a fun Q2 hQ2=> ?_
  simp(maxSteps:=1000000) (disch:=first|omega|(simp;done)|(simp;omega)) [z9a,z1a,z0a,z5Q]
  rw[z6d]
  refine⟨by simp,fun h=> ?_,fun h=> ?_⟩<;>simp at h
  ·have hl7:l.length≤7:=by
    have:=(z9sa 8 (mag n)).2 (by omega)
    rw[←h1,z3ia (by omega)] at this
    simp at this
    omega
   have e1:(m:Int).tmod 256=((m% 256:Nat):Int):=by rw[Int.tmod_eq_emod_of_nonneg (by omega)];rfl
   have e2:(m:Int).tdiv 256=((m/256:Nat):Int):=by rw[Int.tdiv_eq_ediv_of_nonneg (by omega)];rfl
   have e3:UInt8.ofInt ((m:Int)% 256)=UInt8.ofNat m:=by
    apply UInt8.toNat_inj.1
    rw[z8Ma,UInt8.toNat_ofNat']
    omega
   simp(maxSteps:=1000000) (disch:=first|omega|(simp;done)|(simp;omega)) [z9a,z1a,z0a,z1R,e1,e2,e3]
   refine⟨by omega,?_⟩
   simp[hQ2]
   refine⟨m/256,by omega,l++[UInt8.ofNat m],⟨?_,by omega,by simp;omega⟩,by omega,by simp,by simp⟩
   rw[List.append_assoc,List.singleton_append,←z3ia (by omega),h1]
  ·have e:m=0:=by omega
   subst e
   rw[z50,List.append_nil] at h1
   subst h1
   generalize hD:z6Ma (mag n)=D at*
   simp(maxSteps:=1000000) (disch:=first|omega|(simp;done)|(simp;omega)) [z9a,z1a,z0a,hQ2,hQ1,z3Q]
   refine z4a fun Q3 hQ3=> ?_
   have key2:∀c,c=flp n (UInt8.ofNat (128+D.length))→Q3 .normal ⟨[(0,i64 n)],[(4,.sl (.own 1) none D.length (bys D)),(5,i64 D.length),(6,.sl (.own 1) none 1 (bys [c]))],[]⟩:=by
    intro c hc
    have hfin:z4J n=c::D.reverse.map (flp n):=by rw[z4J,hD,hc]
    clear hc
    simp(maxSteps:=1000000) (disch:=first|omega|(simp;done)|(simp;omega)) [z9a,z1a,z0a,hQ3,z7P]
    refine z4a fun Q4 hQ4=> ?_
    refine z4e (fun j:Nat=>⟨[(0,i64 n)],[(4,.sl (.own 1) none D.length (bys D)),(6,.sl (.own 1) none (1+j) (bys (c::(D.map (flp n)).reverse.take j))),(7,i64 ((D.length:Int)-1-j))],[]⟩)
     (fun j=>D.length-j) (· ≤D.length) 0 (by simp) (by simp) fun j hj=> ?_
    refine z4a fun Q5 hQ5=> ?_
    simp(maxSteps:=1000000) (disch:=first|omega|(simp;done)|(simp;omega)) [z9a,z1a,z0a,z3P]
    rw[z6d]
    refine⟨by simp,fun h5=> ?_,fun h5=> ?_⟩<;>simp at h5
    ·have hj':j<D.length:=by omega
     have e1:((D.length:Int)-1-(j:Int)).toNat=D.length-1-j:=by omega
     simp(maxSteps:=1000000) (disch:=first|omega|(simp;done)|(simp;omega)) [z9a,z1a,z0a,z1Q,e1,z95a]
     refine⟨by omega,by omega,?_⟩
     refine z4a fun Q6 hQ6=> ?_
     have key3:∀d,d=flp n (at8 D (D.length-1-j))→Q6 .normal ⟨[(0,i64 n)],[(4,.sl (.own 1) none D.length (bys D)),(6,.sl (.own 1) none (1+j) (bys (c::(D.map (flp n)).reverse.take j))),(7,i64 ((D.length:Int)-1-j)),(8,u8 d)],[]⟩:=by
      intro d hd
      subst hd
      simp(maxSteps:=1000000) (disch:=first|omega|(simp;done)|(simp;omega)) [z9a,z1a,z0a,hQ6,hQ5,z5O]
      refine⟨by omega,j+1,by omega,by omega,⟨by omega,?_⟩,by omega⟩
      rw[z0oc (by simpa using hj')]
      simp[at8,List.getD,List.getElem?_eq_getElem (show D.length-1-j<D.length by omega)]
     rw[z6d]
     refine⟨by simp,fun h7=> ?_,fun h7=> ?_⟩<;>simp at h7
     ·simp(maxSteps:=1000000) (disch:=first|omega|(simp;done)|(simp;omega)) [z9a,z1a,z0a]
      exact key3 _ (by rw[flp,if_pos h7])
     ·simp
      exact key3 _ (by rw[flp,if_neg (by omega)])
    ·have e:j=D.length:=by omega
     subst e
     simp[hQ5,hQ4,z9N,hfin,List.take_of_length_le]
     omega
   have hc8:(UInt8.ofNat (128+D.length)).toNat=128+D.length:=by rw[UInt8.toNat_ofNat'];omega
   rw[z6d]
   refine⟨by simp,fun h6=> ?_,fun h6=> ?_⟩<;>simp at h6
   ·simp(maxSteps:=1000000) (disch:=first|omega|(simp;done)|(simp;omega)) [z9a,z1a,z0a]
    refine key2 _ ?_
    rw[flp,if_neg (by omega)]
    apply UInt8.toNat_inj.1
    rw[hc8,UInt8.toNat_add,z8Ma,z8Ma]
    omega
   ·simp(maxSteps:=1000000) (disch:=first|omega|(simp;done)|(simp;omega)) [z9a,z1a,z0a]
    refine key2 _ ?_
    rw[flp,if_pos (by omega)]
    apply UInt8.toNat_inj.1
    rw[UInt8.toNat_sub,hc8,z8Ma]
    have:(255:UInt8).toNat=255:=rfl
    omega
 have hmag:(mag n:Int)=if n<0 then-1-n else n:=by unfold mag;split<;>omega
 rw[z6d]
 refine⟨by simp,fun h=> ?_,fun h=> ?_⟩<;>simp at h
 ·simp(maxSteps:=1000000) (disch:=first|omega|(simp;done)|(simp;omega)) [z9a,z1a,z0a]
  rw[if_pos h] at hmag
  rw[hmag] at key
  exact key
 ·simp
  rw[if_neg (by omega)] at hmag
  rw[hmag] at key
  exact key
end Go.Abs
end

section
namespace Go.Abs
theorem z6nc (x:UInt32):x^^^4294967295= ~~~x:=by
 apply UInt32.toBitVec_inj.1
 exact BitVec.xor_allOnes
theorem z7pc {l:List UInt32} (h:1<l.length):hdA (z6o l).tail=u32 (z6p l 1):=by
 rw[←List.drop_one,z8Va,z51 h]
def z87c (s v:List UInt32):Nat→List UInt32
 |0=>s
 |t+1=>(z87c s v t).set t (z6p (z87c s v t) t+z6p v t)
theorem z1Gb (s v:List UInt32):∀t,(z87c s v t).length=s.length
 |0=>rfl
 |t+1=>by simp[z87c,z1Gb s v t]
theorem z5sd (s v:H8):z87c s.l v.l 8=(s.add v).l:=rfl
set_option maxHeartbeats 4000000 in
theorem z9Pc (E:Env) (hT1:E.T 1=z6o kc) (h24:E.G 24=z6ra) (h25:E.G 25=z40) (h26:E.G 26=z4fb):∀ds,z6jb.pre ds→ds.length=z9m.n∧awp E z9m.body (z0m z9m.res (z6jb.post ds)) (z3b z9m.wr ds):=by
 rintro _ ⟨nl,b,hb,rfl⟩
 obtain⟨hp1,hp2,hp3⟩:=z4Ka (b:=b) (by omega)
 generalize hm:z9P b=m at*
 have hkc:kc.length=64:=rfl
 simp(maxSteps:=1000000) (disch:=first|omega|(simp;done)|(simp;omega)) [z9a,z1a,z0a,z9m,h24,z9Sb,hm,z8a]
 refine z4a fun Q0 hQ0=> ?_
 refine z4e (fun k:Nat=>⟨[(0,.sl .plain nl b.length (bys b))],[(2,.bp 2 0),(3,.bp 3 0),(4,.sl (.own 1) (some false) m.length (bys m)),(5,i64 (64*k:Nat))],
   [(2,some (bys (z9c 32))),(3,some (z6o (blk m iv k).l))]⟩)
  (fun k=>m.length-64*k) (fun k=>64*k≤m.length) 0 rfl (by simp) fun k hk=> ?_
 generalize hs:blk m iv k=s at*
 refine z4a fun Q1 hQ1=> ?_
 simp(maxSteps:=1000000) (disch:=first|omega|(simp;done)|(simp;omega)) [z9a,z1a,z0a,z8Q]
 rw[z6d]
 refine⟨by simp,fun h=> ?_,fun h=> ?_⟩<;>simp at h
 ·have hb64:((m.drop (64*k)).take 64).length=64:=by simp;omega
  generalize hB:(m.drop (64*k)).take 64=B at*
  have hl:=z4q B 64
  have e1:(64*(k:Int)+64).toNat-64*k=64:=by omega
  have e2:(64*(k:Int)).toNat=64*k:=by omega
  simp(maxSteps:=1000000) (disch:=first|omega|(simp;done)|(simp;omega)) [z9a,z1a,z0a,z2P,h25,z28b,e1,e2,hB,hl,z8a]
  refine⟨by omega,?_⟩
  refine z4a fun Q2 hQ2=> ?_
  have hs8:s.l.take 8=s.l:=rfl
  refine z4e (fun t:Nat=>⟨[(0,.sl .plain nl b.length (bys b))],[(2,.bp 2 0),(3,.bp 3 0),(4,.sl (.own 1) (some false) m.length (bys m)),(5,i64 (64*k:Nat)),(6,.bp 6 0),(7,.bp 7 0),(8,i64 t)],
    [(2,some (bys (z9c 32))),(3,some (z6o s.l)),(6,some (z6o (z9j B 64))),(7,some (z6o (z92a (z9j B 64) s t).l))]⟩)
   (fun t=>64-t) (· ≤64) 0 (by simp[hs8,z92a]) (by decide) fun t ht=> ?_
  refine z4a fun Q3 hQ3=> ?_
  simp(maxSteps:=1000000) (disch:=first|omega|(simp;done)|(simp;omega)) [z9a,z1a,z0a,z6P]
  rw[z6d]
  refine⟨by simp,fun h2=> ?_,fun h2=> ?_⟩<;>simp at h2
  ·generalize hr:z92a (z9j B 64) s t=r at*
   have hrl:r.l.length=8:=rfl
   simp(maxSteps:=2000000) (disch:=first|omega|(simp;done)|(simp;omega)) [z1P,z9a,hT1,z51,z7Bc,z7pc,z9Sa,h26,z7Jb,hl,hkc,hrl,z8a]
   have hn:[u32 (z6p r.l 7+(z71 (z6p r.l 4) 6^^^z71 (z6p r.l 4) 11^^^z71 (z6p r.l 4) 25)+(z6p r.l 4&&&z6p r.l 5^^^(z6p r.l 4^^^4294967295)&&&z6p r.l 6)+z6p kc t+z6p (z9j B 64) t+((z71 (z6p r.l 0) 2^^^z71 (z6p r.l 0) 13^^^z71 (z6p r.l 0) 22)+(z6p r.l 0&&&z6p r.l 1^^^z6p r.l 0&&&z6p r.l 2^^^z6p r.l 1&&&z6p r.l 2))),
     u32 (z6p r.l 0),u32 (z6p r.l 1),u32 (z6p r.l 2),u32 (z6p r.l 3+(z6p r.l 7+(z71 (z6p r.l 4) 6^^^z71 (z6p r.l 4) 11^^^z71 (z6p r.l 4) 25)+(z6p r.l 4&&&z6p r.l 5^^^(z6p r.l 4^^^4294967295)&&&z6p r.l 6)+z6p kc t+z6p (z9j B 64) t)),u32 (z6p r.l 4),u32 (z6p r.l 5),u32 (z6p r.l 6)]
     =z6o (z92a (z9j B 64) s (t+1)).l:=by
    rw[z6nc,z92a,hr]
    rfl
   rw[hn,hQ3]
   repeat' (first|omega|apply And.intro)
   simp
   exact⟨t+1,by omega,by omega,by omega,rfl⟩
  ·have e:t=64:=by omega
   subst e
   generalize hr:z92a (z9j B 64) s 64=r at*
   simp(maxSteps:=1000000) (disch:=first|omega|(simp;done)|(simp;omega)) [z9a,z1a,z0a,hQ3,hQ2,z7N]
   refine z4a fun Q4 hQ4=> ?_
   clear hQ3 hQ2
   refine z4e (fun t:Nat=>⟨[(0,.sl .plain nl b.length (bys b))],[(2,.bp 2 0),(3,.bp 3 0),(4,.sl (.own 1) (some false) m.length (bys m)),(5,i64 (64*k:Nat)),(7,.bp 7 0),(11,i64 t)],
     [(2,some (bys (z9c 32))),(3,some (z6o (z87c s.l r.l t))),(6,some (z6o (z9j B 64))),(7,some (z6o r.l))]⟩)
    (fun t=>8-t) (· ≤8) 0 (by simp[z87c]) (by decide) fun t ht=> ?_
   have hal:=z1Gb s.l r.l t
   have hsl:s.l.length=8:=rfl
   have hrl:r.l.length=8:=rfl
   refine z4a fun Q5 hQ5=> ?_
   simp(maxSteps:=1000000) (disch:=first|omega|(simp;done)|(simp;omega)) [z9a,z1a,z0a,z0O]
   rw[z6d]
   refine⟨by simp,fun h3=> ?_,fun h3=> ?_⟩<;>simp at h3
   ·simp(maxSteps:=1000000) (disch:=first|omega|(simp;done)|(simp;omega)) [z9a,z1a,z0a,z4P,z51,z1C]
    repeat' (first|omega|apply And.intro)
    simp[hQ5]
    exact⟨t+1,by omega,by omega,by omega,rfl⟩
   ·have e:t=8:=by omega
    subst e
    simp(maxSteps:=1000000) (disch:=first|omega|(simp;done)|(simp;omega)) [z9a,z1a,z0a,hQ5,hQ4,hQ1]
    refine⟨k+1,by omega,by omega,by omega,?_⟩
    rw[z5sd,blk,hs,hB,z8pb,hr]
 ·have e:64*k=m.length:=by omega
  simp(maxSteps:=1000000) (disch:=first|omega|(simp;done)|(simp;omega)) [z9a,z1a,z0a,hQ1,hQ0,z2R]
  refine z4a fun Q2 hQ2=> ?_
  clear hQ1 hQ0
  refine z4e (fun i:Nat=>⟨[(0,.sl .plain nl b.length (bys b))],[(2,.bp 2 0),(3,.bp 3 0),(12,.bp 12 0),(13,i64 i)],
    [(2,some (bys (z9c 32))),(3,some (z6o s.l)),(6,none),(7,none),(12,some (bys (z1Sb s i++z9c (32-i))))]⟩)
   (fun i=>32-i) (· ≤32) 0 rfl (by decide) fun i hi=> ?_
  have ho:=z0Fa s i
  refine z4a fun Q3 hQ3=> ?_
  simp(maxSteps:=1000000) (disch:=first|omega|(simp;done)|(simp;omega)) [z9a,z1a,z0a,z6O]
  rw[z6d]
  refine⟨by simp,fun h2=> ?_,fun h2=> ?_⟩<;>simp at h2
  ·have hi4:i/4<s.l.length:=by show i/4<8;omega
   have e4:(i:Int).tdiv 4=(i/4:Nat):=by rw[Int.tdiv_eq_ediv_of_nonneg (by omega)];rfl
   have e5:(i:Int).tmod 4=(i% 4:Nat):=by rw[Int.tmod_eq_emod_of_nonneg (by omega)];rfl
   have e4':((i:Int)/4).toNat=i/4:=by omega
   have e6:((24:Int)-8*((i:Int)% 4)).toNat=24-8*(i% 4):=by omega
   simp(maxSteps:=1000000) (disch:=first|omega|(simp;done)|(simp;omega)) [z9a,z1a,z0a,z3O,e4,e5,e6,e4',z51,z4Ma,z60a,z5ab (show i<32 by omega)]
   repeat' (first|omega|apply And.intro)
   simp[hQ3]
   refine⟨i+1,by omega,by omega,by omega,?_⟩
   rw[z1Sb,show 32-(i+1)=31-i by omega]
   simp
  ·have e:i=32:=by omega
   subst e
   have hk2:m.length/64=k:=by omega
   have hf:sha b=z1Sb s 32:=by
    rw[z67b hb,hm,hk2,hs]
   simp[hQ3,hQ2,z4Q,z4l,ho,hf,z9c,List.take_of_length_le]
end Go.Abs
end

section
namespace Go.Abs
theorem z92b (E:Env):∀ds,z6ra.pre ds→ds.length=z6j.n∧awp E z6j.body (z0m z6j.res (z6ra.post ds)) (z3b z6j.wr ds):=by
 rintro _ ⟨nl,b,hb,rfl⟩
 have hn:(UInt64.ofNat b.length).toNat=b.length:=by rw[UInt64.toNat_ofNat'];omega
 have ho:UInt64.ofInt (b.length:Int)=UInt64.ofNat b.length:=by
  apply UInt64.toNat_inj.1
  rw[z1Ja,UInt64.toNat_ofNat']
  omega
 have hz:=z7wb b.length
 have hzo:=z7vb b.length
 simp(maxSteps:=1000000) (disch:=first|omega|(simp;done)|(simp;omega)) [z9a,z1a,z0a,z6j]
 refine⟨by omega,by omega,?_⟩
 refine z4a fun Q0 hQ0=> ?_
 refine z4e (fun k:Nat=>⟨[(0,.sl .plain nl b.length (bys b))],[(3,.sl (.own 1) (some false) (b.length+1+k) (bys (b++128::z9c k)))],[]⟩)
  (fun k=>z74a b.length-k) (· ≤z74a b.length) 0 rfl (by simp) fun k hk=> ?_
 refine z4a fun Q1 hQ1=> ?_
 simp(maxSteps:=1000000) (disch:=first|omega|(simp;done)|(simp;omega)) [z9a,z1a,z0a]
 have e64:((b.length:Int)+1+(k:Int)).tmod 64=((b.length+1+k)% 64:Nat):=by rw[Int.tmod_eq_emod_of_nonneg (by omega)];omega
 rw[z6d]
 refine⟨by simp,fun h=> ?_,fun h=> ?_⟩<;>simp at h
 ·have hk':k<z74a b.length:=by
   rcases Nat.lt_or_ge k (z74a b.length) with h3|h3
   ·exact h3
   ·have:k=z74a b.length:=by omega
    subst this
    omega
  simp(maxSteps:=1000000) (disch:=first|omega|(simp;done)|(simp;omega)) [z9a,z1a,z0a,hQ1]
  refine⟨by omega,k+1,by omega,by omega,by omega,?_⟩
  rw[←z91a]
 ·have e:k=z74a b.length:=by
   unfold z74a at hk⊢
   omega
  subst e
  simp(maxSteps:=1000000) (disch:=first|omega|(simp;done)|(simp;omega)) [z9a,z1a,z0a,hQ1,hQ0]
  refine z4a fun Q2 hQ2=> ?_
  refine z4e (fun i:Nat=>⟨[(0,.sl .plain nl b.length (bys b))],[(3,.sl (.own 1) (some false) (b.length+1+z74a b.length+i) (bys (b++128::z9c (z74a b.length)++be8 (8*UInt64.ofNat b.length) i))),(4,u64 (8*UInt64.ofNat b.length)),(5,i64 i)],[]⟩)
   (fun i=>8-i) (· ≤8) 0 (by simp[be8,ho]) (by decide) fun i hi=> ?_
  have hbe:=z7Ga (8*UInt64.ofNat b.length) i
  refine z4a fun Q3 hQ3=> ?_
  simp(maxSteps:=1000000) (disch:=first|omega|(simp;done)|(simp;omega)) [z9a,z1a,z0a]
  rw[z6d]
  refine⟨by simp,fun h=> ?_,fun h=> ?_⟩<;>simp at h
  ·have e7:((56:Int)-8*(i:Int)).toNat=56-8*i:=by omega
   simp(maxSteps:=1000000) (disch:=first|omega|(simp;done)|(simp;omega)) [z9a,z1a,z0a,e7]
   refine⟨by omega,by omega,?_⟩
   rw[hQ3]
   simp
   refine⟨i+1,by omega,by omega,⟨by omega,?_⟩,by omega⟩
   rw[be8]
  ·have e:i=8:=by omega
   subst e
   simp[hQ3,hQ2,z9P,z1yb,hn,z7Ga]
   omega
theorem z8wc (x y:UInt32) (n:Nat):z8ua (x|||y) n=z8ua x n|||z8ua y n:=by
 apply UInt32.toBitVec_inj.1
 exact BitVec.shiftLeft_or_distrib x.toBitVec y.toBitVec n
theorem z4zb (x:UInt32) (m n:Nat):z8ua (z8ua x m) n=z8ua x (m+n):=by
 apply UInt32.toBitVec_inj.1
 exact(BitVec.shiftLeft_add x.toBitVec m n).symm
theorem z6ge (b:List UInt8) (t:Nat):ldw b t 4=z8ua (at8 b (4*t)).toUInt32 24|||z8ua (at8 b (4*t+1)).toUInt32 16|||z8ua (at8 b (4*t+2)).toUInt32 8|||(at8 b (4*t+3)).toUInt32:=by
 have h0:z8ua 0 8=0:=rfl
 have h1:∀x:UInt32,0|||x=x:=fun x=>by simp
 simp only[ldw,z8wc,z4zb,h0,h1,Nat.add_zero]
theorem z7yc (E:Env) (h26:E.G 26=z4fb):∀ds,z40.pre ds→ds.length=z6k.n∧awp E z6k.body (z0m z6k.res (z40.post ds)) (z3b z6k.wr ds):=by
 rintro _ ⟨nl,b,hb,rfl⟩
 simp(maxSteps:=1000000) (disch:=first|omega|(simp;done)|(simp;omega)) [z9a,z1a,z0a,z6k]
 refine z4a fun Q0 hQ0=> ?_
 refine z4e (fun t:Nat=>⟨[(0,.sl .plain nl 64 (bys b))],[(2,.bp 2 0),(3,.bp 3 0),(4,i64 t)],[(2,some (z6o (z6i 64))),(3,some (z6o (z9j b t++z6i (64-t))))]⟩)
  (fun t=>16-t) (· ≤16) 0 rfl (by decide) fun t ht=> ?_
 have hl:=z4q b t
 refine z4a fun Q1 hQ1=> ?_
 simp(maxSteps:=1000000) (disch:=first|omega|(simp;done)|(simp;omega)) [z9a,z1a,z0a]
 rw[z6d]
 refine⟨by simp,fun h=> ?_,fun h=> ?_⟩<;>simp at h
 ·have h4:(4*(t:Int)).toNat=4*t:=by omega
  have h41:(4*(t:Int)+1).toNat=4*t+1:=by omega
  have h42:(4*(t:Int)+2).toNat=4*t+2:=by omega
  have h43:(4*(t:Int)+3).toNat=4*t+3:=by omega
  simp(maxSteps:=1000000) (disch:=first|omega|(simp;done)|(simp;omega)) [z9a,z1a,z0a,z95a,h4,h41,h42,h43,z1C,z60a,z7sa (show t<64 by omega)]
  repeat' (first|omega|apply And.intro)
  simp[hQ1]
  refine⟨t+1,by omega,by omega,by omega,?_⟩
  rw[z9j,z83a,if_pos (by omega),show 64-(t+1)=63-t by omega,z6ge]
  simp
 ·have e:t=16:=by omega
  subst e
  simp(maxSteps:=1000000) (disch:=first|omega|(simp;done)|(simp;omega)) [z9a,z1a,z0a,hQ1,hQ0]
  refine z4a fun Q2 hQ2=> ?_
  refine z4e (fun t:Nat=>⟨[(0,.sl .plain nl 64 (bys b))],[(2,.bp 2 0),(3,.bp 3 0),(5,i64 t)],[(2,some (z6o (z6i 64))),(3,some (z6o (z9j b t++z6i (64-t))))]⟩)
   (fun t=>64-t) (fun t=>16≤t∧t≤64) 16 rfl (by decide) fun t ht=> ?_
  have hl:=z4q b t
  refine z4a fun Q3 hQ3=> ?_
  simp(maxSteps:=1000000) (disch:=first|omega|(simp;done)|(simp;omega)) [z9a,z1a,z0a]
  rw[z6d]
  refine⟨by simp,fun h2=> ?_,fun h2=> ?_⟩<;>simp at h2
  ·simp(maxSteps:=1000000) (disch:=first|omega|(simp;done)|(simp;omega)) [z9a,z1a,z0a,h26,z7Jb,z51,z1C,z2Mb]
   repeat' (first|omega|apply And.intro)
   simp[hQ3]
   refine⟨t+1,by omega,by omega,by omega,?_⟩
   rw[z9j,z83a,if_neg (by omega),show 64-(t+1)=63-t by omega,z7sa (by omega),show((t:Int)-16).toNat=t-16 by omega,show((t:Int)-15).toNat=t-15 by omega,show((t:Int)-7).toNat=t-7 by omega,show((t:Int)-2).toNat=t-2 by omega]
   simp[sg0,sg1]
  ·have e:t=64:=by omega
   subst e
   simp(disch:=simp[hl]) [hQ3,hQ2,z8a,hl,List.take_of_length_le,z6i]
end Go.Abs
end
