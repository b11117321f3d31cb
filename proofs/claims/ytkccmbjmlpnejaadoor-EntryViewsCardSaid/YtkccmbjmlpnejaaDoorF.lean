/- Lemmas: an abstract interpreter, and what the functions compute. -/
import Derived.Test.YtkccmbjmlpnejaaDoorE
set_option linter.unusedSimpArgs false
set_option linter.unusedVariables false
set_option linter.unusedSectionVars false
section
namespace Go.Abs
theorem z5Gb (E:Env):∀ds,z6ga.pre ds→ds.length=z6s.n∧awp E z6s.body (z1A z6s.res (z6ga.post ds)) (z9c z6s.wr ds):=by
 rintro _ rfl
 simp[z6s,z6ga,z2z.v,z2z.init,scs,H8.l,z1wa,z04,z8f,iv,or_imp,forall_and,List.take_of_length_le]
theorem z0Xb (E:Env):∀ds,z4rb.pre ds→ds.length=z3i.n∧awp E z3i.body (z1A z3i.res (z4rb.post ds)) (z9c z3i.wr ds):=by
 rintro _ ⟨x,k,rfl⟩
 simp[z3i,z4rb,z1Ta]
theorem z4lc (E:Env) (h13:E.G 13=z4rb):∀ds,z8Kb.pre ds→ds.length=z5D.n∧awp E z5D.body (z1A z5D.res (z8Kb.post ds)) (z9c z5D.wr ds):=by
 rintro _ ⟨x,i,j,k,rfl⟩
 simp[z5D,z8Kb,h13,z4rb]
theorem z7sb (E:Env) (h13:E.G 13=z4rb):∀ds,z0S.pre ds→ds.length=z1n.n∧awp E z1n.body (z1A z1n.res (z0S.post ds)) (z9c z1n.wr ds):=by
 rintro _ ⟨nl,b,hb,rfl⟩
 simp[z1n,h13,z4rb,z0S]
 refine z3a fun Q0 hQ0=> ?_
 refine z4d (fun t:Nat=>⟨[(0,.sl .plain nl 64 (bys b))],[(2,.bp 2 0),(3,.bp 3 0),(11,i64 t)],[(2,some (z2p (z2j 64))),(3,some (z2p (z3k b t++z2j (64-t))))]⟩)
  (fun t=>64-t) (· ≤64) 0 rfl (by decide) fun t ht=> ?_
 have hl:=z8p b t
 refine z3a fun Q1 hQ1=> ?_
 simp(disch:=first|omega|(simp;omega)) [z9a]
 rw[z7b]
 refine⟨by simp,fun h=> ?_,fun h=> ?_⟩<;>simp at h
 ·simp(disch:=first|omega|(simp;omega)) [z9a]
  rw[z7b]
  refine⟨by simp,fun h16=> ?_,fun h16=> ?_⟩<;>simp at h16
  ·simp(disch:=first|omega|(simp;omega)) [z9a]
   refine⟨by omega,?_⟩
   refine z3a fun Q2 hQ2=> ?_
   refine z4d (fun j:Nat=>⟨[(0,.sl .plain nl 64 (bys b))],[(2,.bp 2 0),(3,.bp 3 0),(4,i64 t),(11,i64 t),(22,.sl .plain nl 4 (bys ((b.drop (4*t)).take 4))),(23,i64 4),(24,i64 j)],
     [(2,some (z2p (z2j 64))),(3,some (z2p (z3k b t++ldw b t j::z2j (63-t))))]⟩)
    (fun j=>4-j) (· ≤4) 0 ?_ (by decide) fun j hj=> ?_
   ·have e1:(4*(t:Int)+4).toNat-(4*(t:Int)).toNat=4:=by omega
    have e2:(4*(t:Int)).toNat=4*t:=by omega
    rw[e1,e2,z3ba (show t<64 by omega),ldw]
    rfl
   refine z3a fun Q3 hQ3=> ?_
   simp(disch:=first|omega|(simp;omega)) [z9a]
   rw[z7b]
   refine⟨by simp,fun h4=> ?_,fun h4=> ?_⟩<;>simp at h4
   ·simp(disch:=first|omega|(simp;omega)) [z9a,z7ya,z8S,z22a,z0jb,z67a,z1D,z3sa]
    repeat' (first|omega|apply And.intro)
    simp(disch:=omega) [hQ3,z9a]
    refine⟨j+1,by omega,by omega,by omega,?_⟩
    rw[ldw]
   ·have e4:j=4:=by omega
    subst e4
    simp(disch:=omega) [hQ3,hQ2,hQ1,z9a]
    refine⟨t+1,by omega,by omega,by omega,?_⟩
    rw[z3k,z0xa,if_pos (by omega),show 64-(t+1)=63-t by omega]
    simp
  ·simp(disch:=first|omega|(simp;omega)) [z9a,h13,z4rb,z2zc,z6Wb,z4Sb,z61b,z8S,z1D,z04a]
   repeat' (first|omega|apply And.intro)
   simp[hQ1]
   refine⟨t+1,by omega,by omega,by omega,?_⟩
   rw[z3k,z0xa,if_neg (by omega),show 64-(t+1)=63-t by omega,z3ba (by omega),show((t:Int)-16).toNat=t-16 by omega,show((t:Int)-15).toNat=t-15 by omega,show((t:Int)-7).toNat=t-7 by omega,show((t:Int)-2).toNat=t-2 by omega]
   simp[sg0,sg1]
 ·have e:t=64:=by omega
  subst e
  simp(disch:=simp[hl]) [hQ1,hQ0,z8f,hl,List.take_of_length_le,z2j]
end Go.Abs
end

section
namespace Go.Abs
theorem z4Fc:kc.length=64:=rfl
def z1Pa (s:List UInt32) (v e:List UInt32):Nat→List UInt32
 |0=>s
 |t+1=>((z1Pa s v e t).set t (z6p (z1Pa s v e t) t+z6p v t)).set (t+4) (z6p ((z1Pa s v e t).set t (z6p (z1Pa s v e t) t+z6p v t)) (t+4)+z6p e t)
theorem z21a (s v e:List UInt32):∀t,(z1Pa s v e t).length=s.length
 |0=>rfl
 |t+1=>by simp[z1Pa,z21a s v e t]
theorem z1Ac (s v:H8):z1Pa s.l [v.a,v.b,v.c,v.d] [v.e,v.f,v.g,v.h] 4=(s.add v).l:=rfl

theorem z2Eb (E:Env) (hT:E.T 0=z2p kc) (h10:E.G 10=z0S) (h11:E.G 11=z8Kb):∀ds,z3ma.pre ds→ds.length=z7m.n∧awp E z7m.body (z1A z7m.res (z3ma.post ds)) (z9c z7m.wr ds):=by
 rintro _ ⟨s,nl,b,hb,rfl⟩
 have hl:=z8p b 64
 have hk:=z4Fc
 simp(disch:=first|omega|(simp;omega)) [z7m,h10,h11,z0S,z8Kb,z3ma,hT]
 refine⟨hb,hl,by omega,?_⟩
 refine z3a fun Q0 hQ0=> ?_
 refine z4d (fun t:Nat=>⟨[(0,.agg (z2p s.l)),(1,.sl .plain nl 64 (bys b))],
   [(2,.bp 2 0),(4,.bp 4 0),(5,.bp 5 0),(6,.bp 6 0),(7,.bp 7 0),(21,.agg (z2p kc)),(22,i64 t)],
   [(2,some (z2p s.l)),(4,some (z2p (z2j 8))),(5,some (z2p (z3k b 64))),
    (6,some (z2p [(z6wa (z3k b 64) s t).a,(z6wa (z3k b 64) s t).b,(z6wa (z3k b 64) s t).c,(z6wa (z3k b 64) s t).d])),
    (7,some (z2p [(z6wa (z3k b 64) s t).e,(z6wa (z3k b 64) s t).f,(z6wa (z3k b 64) s t).g,(z6wa (z3k b 64) s t).h]))]⟩)
  (fun t=>64-t) (· ≤64) 0 ?_ (by decide) fun t ht=> ?_
 ·have e:kc.take 64=kc:=rfl
  simp(disch:=simp[hl]) [z8f,z6wa,H8.l,e]
 refine z3a fun Q1 hQ1=> ?_
 simp(disch:=first|omega|(simp;omega)) [z9a]
 rw[z7b]
 refine⟨by simp,fun h=> ?_,fun h=> ?_⟩<;>simp at h
 ·generalize hr:z6wa (z3k b 64) s t=r at*
  simp(maxSteps:=2000000) (disch:=first|omega|(simp;omega)) [z9a,z1wa,h11,z8Kb,z0vc,z9Sb,z24b,z7tc,z11b,z46b,z8S,z8ua,hl,hk,z8f]
  repeat' (first|omega|apply And.intro)
  rw[hQ1]
  simp[z1wa]
  refine⟨t+1,by omega,by omega,by omega,?_⟩
  have sf:∀a b c d x y z w:z2a,splice [a,b,c,d] 0 [x,y,z,w]=[x,y,z,w]:=fun a b c d x y z w=>rfl
  simp only[z6wa,hr,sf,rnd,and_self]
 ·have e:t=64:=by omega
  subst e
  simp[hQ1,hQ0]
  refine z3a fun Q2 hQ2=> ?_
  generalize hv:z6wa (z3k b 64) s 64=v at*
  refine z4d (fun t:Nat=>⟨[(0,.agg (z2p s.l)),(1,.sl .plain nl 64 (bys b))],
   [(2,.bp 2 0),(4,.bp 4 0),(6,.bp 6 0),(7,.bp 7 0),(94,i64 t)],
   [(2,some (z2p (z1Pa s.l [v.a,v.b,v.c,v.d] [v.e,v.f,v.g,v.h] t))),(4,some (z2p (z2j 8))),(5,some (z2p (z3k b 64))),
    (6,some (z2p [v.a,v.b,v.c,v.d])),(7,some (z2p [v.e,v.f,v.g,v.h]))]⟩)
   (fun t=>4-t) (· ≤4) 0 rfl (by decide) fun t ht=> ?_
  refine z3a fun Q3 hQ3=> ?_
  simp(disch:=first|omega|(simp;omega)) [z9a]
  rw[z7b]
  have ha:=z21a s.l [v.a,v.b,v.c,v.d] [v.e,v.f,v.g,v.h] t
  rw[H8.len] at ha
  refine⟨by simp,fun h=> ?_,fun h=> ?_⟩<;>simp at h
  ·simp(disch:=first|omega|(simp;omega)) [z9a,z8S,z1D]
   repeat' (first|omega|apply And.intro)
   have e4:((t:Int)+4).toNat=t+4:=by omega
   rw[e4,z1D (by rw[List.length_set,ha];omega),hQ3]
   simp
   exact⟨t+1,by omega,by omega,by omega,rfl⟩
  ·have e:t=4:=by omega
   subst e
   simp[hQ3,hQ2,z1Ac,z8f,z3Pa,hv]
   rfl
end Go.Abs
end

section
namespace Go.Abs
theorem z5Zb (E:Env) (h4:E.G 4=z3ma):∀ds,z1bb.pre ds→ds.length=z8j.n∧awp E z8j.body (z1A z8j.res (z1bb.post ds)) (z9c z8j.wr ds):=by
 rintro _ ⟨s,m,hb,rfl⟩
 simp(disch:=first|omega|(simp;omega)) [z8j,h4,z3ma,z1bb,z2z.v,hb,z8J,z2z.of_scs]
 refine z3a fun Q0 hQ0=> ?_
 refine z4d (fun k:Nat=>⟨[(0,.agg (scs s))],[(1,st (m.drop k)),(2,.bp 2 0),(4,.bp 4 0)],
   [(2,some (scs (s.add (m.take k)))),(4,some (z2p (z2j 8)++(bys (z4c 64)++[u64 0])))]⟩)
  (fun k=>m.length-k) (· ≤m.length) 0 (by simp[z2z.add]) (by simp) fun k hk=> ?_
 refine z3a fun Q1 hQ1=> ?_
 have hb':(s.add (m.take k)).b.length=64:=by rw[z3wa,hb]
 simp(disch:=first|omega|(simp;omega)) [z9a]
 rw[z7b]
 refine⟨by simp,fun h=> ?_,fun h=> ?_⟩<;>simp at h
 ·generalize hs:s.add (m.take k)=s' at*
  generalize hr:m.drop k=r at*
  have hrl:r.length=m.length-k:=by rw[←hr];simp
  have hn:s'.n.toNat% 64<64:=Nat.mod_lt _ (by decide)
  simp(disch:=first|omega|(simp;omega)) [z9a,z8J,z1vb,z00b,z9Tb,z6Ma,z6ib,z5pb,hb']
  refine⟨by omega,by omega,by omega,?_⟩
  refine z3a fun Q2 hQ2=> ?_
  generalize hj:min r.length (64-s'.n.toNat% 64)=j at*
  have hjl:j≤r.length:=by omega
  have hpiece:=z3ta s' hb' j (r.take j) (by simp;omega) (by omega)
  have hstep:s.add (m.take (k+j))=s'.add (r.take j):=by rw[List.take_add,z43,hs,hr]
  have hrest:(r.drop j).take (r.length-j)=m.drop (k+j):=by
   rw[List.take_of_length_le (by simp),←hr,List.drop_drop]
  have hof:UInt64.ofInt (j:Int)=UInt64.ofNat j:=by
   apply UInt64.toNat_inj.1
   rw[z6la,UInt64.toNat_ofNat']
   omega
  rw[z7b]
  refine⟨by simp,fun h30=> ?_,fun h30=> ?_⟩<;>simp at h30
  ·generalize hS:(⟨s'.h,_,_⟩:z2z)=S at*
   have hSb:S.b.length=64:=by rw[←hS];simp[hb'];omega
   simp(disch:=first|omega|(simp;omega)) [h4,z3ma,z8J,z00b,z9Tb,z6Ma,hSb]
   refine⟨⟨_,_,_,hSb,rfl,rfl,rfl⟩,?_⟩
   simp[hQ2,hQ1]
   refine⟨k+j,by omega,by omega,hrest,?_⟩
   rw[hstep,hpiece,if_pos (by omega),←hS,hof]
  ·simp[hQ2,hQ1]
   refine⟨k+j,by omega,by omega,hrest,?_⟩
   rw[hstep,hpiece,if_neg (by omega),hof]
 ·have e:k=m.length:=by omega
  subst e
  have hm:(s.add m).b.length=64:=by rw[z3wa,hb]
  simp[hQ1,hQ0,z8J hm,z4Ea hm z1Za,z1eb hm]
end Go.Abs
end

section
namespace Go.Abs
theorem z3zc (E:Env) (h1:E.G 1=z1bb):∀ds,z4Bb.pre ds→ds.length=z0k.n∧awp E z0k.body (z1A z0k.res (z4Bb.post ds)) (z9c z0k.wr ds):=by
 rintro _ ⟨s,hb,hn,rfl⟩
 simp(disch:=first|omega|(simp;omega)) [z0k,h1,z1bb,z4Bb,z2z.v,hb,z8J,z2z.of_scs,z1vb]
 refine z3a fun Q0 hQ0=> ?_
 refine z4d (fun k:Nat=>⟨[(0,.agg (scs s))],[(1,.bp 1 0),(2,.bp 2 0),(3,u64 (8*s.n)),(4,.sl (.own 1) (some false) (k+1) (bys (128::z4c k)))],
   [(1,some (scs s)),(2,some (bys (z4c 32)))]⟩)
  (fun k=>z1xa s.n.toNat-k) (· ≤z1xa s.n.toNat) 0 rfl (by simp) fun k hk=> ?_
 have hz:=z2Wa s.n.toNat
 have hzo:=z7Ua s.n.toNat
 refine z3a fun Q1 hQ1=> ?_
 simp(disch:=first|omega|(simp;omega)) [z9a,z8J,z1vb,hb]
 rw[z7b]
 refine⟨by simp,fun h=> ?_,fun h=> ?_⟩<;>simp at h<;>rw[Int.tmod_eq_emod_of_nonneg (by omega)] at h
 ·simp(disch:=first|omega|(simp;omega)) [z9a,hQ1]
  clear hQ0 hQ1
  refine⟨by omega,?_⟩
  refine⟨k+1,by omega,by omega,by omega,?_⟩
  rw[show [u8 0]=bys [0] from rfl,←z6J,←z9sa]
  simp
 ·have e:k=z1xa s.n.toNat:=by omega
  subst e
  simp[hQ1,hQ0]
  refine z3a fun Q2 hQ2=> ?_
  refine z4d (fun i:Nat=>⟨[(0,.agg (scs s))],[(1,.bp 1 0),(2,.bp 2 0),(3,u64 (8*s.n)),(4,.sl (.own 1) (some false) (z1xa s.n.toNat+1+i) (bys (128::z4c (z1xa s.n.toNat)++be8 (8*s.n) i))),(23,i64 i)],
    [(1,some (scs s)),(2,some (bys (z4c 32)))]⟩)
   (fun i=>8-i) (· ≤8) 0 (by simp[be8]) (by decide) fun i hi=> ?_
  have hbe:=z3la (8*s.n) i
  refine z3a fun Q3 hQ3=> ?_
  simp(disch:=first|omega|(simp;omega)) [z9a]
  rw[z7b]
  refine⟨by simp,fun h=> ?_,fun h=> ?_⟩<;>simp at h
  ·have e7:((56:Int)-8*(i:Int)).toNat=56-8*i:=by omega
   simp(disch:=first|omega|(simp;omega)) [z9a,e7]
   repeat' (first|omega|apply And.intro)
   rw[hQ3]
   simp
   refine⟨i+1,by omega,by omega,⟨by omega,?_⟩,by omega⟩
   rw[be8,show [u8 (z2xa (8*s.n) (56-8*i)).toUInt8]=bys [(z2xa (8*s.n) (56-8*i)).toUInt8] from rfl,←z6J]
   simp
  ·have e:i=8:=by omega
   subst e
   simp(disch:=first|omega|(simp;omega)) [hQ3,hQ2,h1,z1bb,z2z.v,z8J,z1eb,z4Ea,hb,z2z.of_scs,z3wa]
   generalize hS:s.add (128::(z4c (z1xa s.n.toNat)++be8 (8*s.n) 8))=S at*
   have hSb:S.b.length=64:=by rw[←hS,z3wa,hb]
   have hsum:s.sum=z48a S.h 32:=by rw[←hS];rfl
   rw[z4Ea hSb (z8J hb),hsum]
   clear hQ1 hQ2 hQ3 hQ0
   refine⟨?_,⟨s,hb,rfl⟩,z8J hSb,?_⟩
   ·have:=z3la (8*s.n) 8
    simp[this]
   refine z3a fun Q4 hQ4=> ?_
   refine z4d (fun i:Nat=>⟨[(0,.agg (scs s))],[(1,.bp 1 0),(2,.bp 2 0),(6,.bp 6 0),(40,i64 i)],
     [(1,some (scs S)),(2,some (bys (z4c 32))),(6,some (bys (z48a S.h i++z4c (32-i))))]⟩)
    (fun i=>32-i) (· ≤32) 0 rfl (by decide) fun i hi=> ?_
   have ho:=z8oa S.h i
   refine z3a fun Q5 hQ5=> ?_
   simp(disch:=first|omega|(simp;omega)) [z9a]
   rw[z7b]
   refine⟨by simp,fun h=> ?_,fun h=> ?_⟩<;>simp at h
   ·have e4:(i:Int).tmod 4=((i% 4:Nat):Int):=by rw[Int.tmod_eq_emod_of_nonneg (by omega)];rfl
    have e5:((i:Int)/4).toNat=i/4:=by omega
    have e6:((24:Int)-8*((i% 4:Nat):Int)).toNat=24-8*(i% 4):=by omega
    simp(disch:=first|omega|(simp;omega)) [z9a,e4,e5,z8Fc,z8J hSb]
    refine⟨by omega,by omega,by omega,by omega,by omega,?_⟩
    have e7:((24:Int)-8*((i:Int)% 4)).toNat=24-8*(i% 4):=by omega
    rw[e7,z8ja (by simp;omega),z8Fa (by omega),z3sa ho.symm,hQ5]
    simp
    refine⟨i+1,by omega,by omega,by omega,?_⟩
    rw[z48a,show 32-(i+1)=32-1-i by omega]
    simp
   ·have e:i=32:=by omega
    subst e
    simp(disch:=simp[ho]) [hQ5,hQ4,z8f,ho,List.take_of_length_le,z4c]
end Go.Abs
end

section
namespace Go.Abs
theorem z0Xc (E:Env) (h0:E.G 0=z6ga) (h1:E.G 1=z1bb) (h2:E.G 2=z4Bb) (h7:E.G 7=z39):∀ds,ofC.pre ds→ds.length=z5N.n∧awp E z5N.body (z1A z5N.res (ofC.post ds)) (z9c z5N.wr ds):=by
 rintro _ ⟨tag,nl,parts,hl,rfl⟩
 simp(maxSteps:=1000000) (disch:=first|omega|(simp;done)|(simp;omega)) [z9a,z1a,z0a,z5N,h0,h1]
 refine z3a fun Q0 hQ0=> ?_
 refine z4d (fun i:Nat=>⟨[(0,i64 tag),(1,.sl .plain nl parts.length (sts parts))],[(4,.bp 4 0),(5,.bp 5 0),(15,.sl .plain nl parts.length (sts parts)),(16,i64 parts.length),(17,i64 i)],
   [(4,some (bys (z4c 16))),(5,some (svc (z22 tag (parts.take i))))]⟩)
  (fun i=>parts.length-i) (· ≤parts.length) 0 rfl (by simp) fun i hi=> ?_
 have hlen:=z2ea parts
 refine z3a fun Q1 hQ1=> ?_
 simp(maxSteps:=1000000) (disch:=first|omega|(simp;done)|(simp;omega)) [z9a,z1a,z0a]
 rw[z7b]
 refine⟨by simp,fun h=> ?_,fun h=> ?_⟩<;>simp at h
 ·have hb:=z2sa (l:=parts) (i:=i) (by omega)
  simp(maxSteps:=1000000) (disch:=first|omega|(simp;done)|(simp;omega)) [z9a,z1a,z0a,z7Kb,h7,h1,z9va]
  repeat' (first|omega|apply And.intro)
  simp[hQ1]
  refine⟨i+1,by omega,by omega,by omega,?_⟩
  rw[z22,z22,z1p _ _ [] (by omega)]
  rfl
 ·have e:i=parts.length:=by omega
  subst e
  have hi:(z22 tag parts).length<1099511627776:=by
   have:=z8C hl
   simp only[z22,List.length_cons];omega
  simp(maxSteps:=1000000) (disch:=first|omega|(simp;done)|(simp;omega)) [z9a,z1a,z0a,hQ1,hQ0,h2,z13b,z0z]
  rw[z5G,List.take_take,Nat.min_self]
end Go.Abs
end
