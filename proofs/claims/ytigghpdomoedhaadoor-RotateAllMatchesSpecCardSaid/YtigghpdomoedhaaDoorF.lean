/- Lemmas: an abstract interpreter, and what the functions compute. -/
import Derived.Test.YtigghpdomoedhaaDoorE
set_option linter.unusedSimpArgs false
set_option linter.unusedVariables false
set_option linter.unusedSectionVars false
section
namespace Go.Abs
theorem z1ob (E:Env):∀ds,z5V.pre ds→ds.length=z7r.n∧awp E z7r.body (z2q z7r.res (z5V.post ds)) (z9b z7r.wr ds):=by
 rintro _ rfl
 simp[z7r,z5V,z8t.v,z8t.init,scs,H8.l,z8ha,z22,z0j,iv,or_imp,forall_and,List.take_of_length_le]
theorem z2Yb (E:Env):∀ds,z1ib.pre ds→ds.length=z4i.n∧awp E z4i.body (z2q z4i.res (z1ib.post ds)) (z9b z4i.wr ds):=by
 rintro _ ⟨x,k,rfl⟩
 simp[z4i,z1ib,z2La]
theorem z1bc (E:Env) (h13:E.G 13=z1ib):∀ds,z6Db.pre ds→ds.length=z2z.n∧awp E z2z.body (z2q z2z.res (z6Db.post ds)) (z9b z2z.wr ds):=by
 rintro _ ⟨x,i,j,k,rfl⟩
 simp[z2z,z6Db,h13,z1ib]
theorem z3xb (E:Env) (h13:E.G 13=z1ib):∀ds,z3M.pre ds→ds.length=z6m.n∧awp E z6m.body (z2q z6m.res (z3M.post ds)) (z9b z6m.wr ds):=by
 rintro _ ⟨nl,b,hb,rfl⟩
 simp[z6m,h13,z1ib,z3M]
 refine z7a fun Q0 hQ0=> ?_
 refine z4f (fun t:Nat=>⟨[(0,.sl .plain nl 64 (bys b))],[(2,.bp 2 0),(3,.bp 3 0),(11,i64 t)],[(2,some (z3o (z3k 64))),(3,some (z3o (z5v b t++z3k (64-t))))]⟩)
  (fun t=>64-t) (· ≤64) 0 rfl (by decide) fun t ht=> ?_
 have hl:=z4z b t
 refine z7a fun Q1 hQ1=> ?_
 simp(disch:=first|omega|(simp;omega)) [z8a]
 rw[z3e]
 refine⟨by simp,fun h=> ?_,fun h=> ?_⟩<;>simp at h
 ·simp(disch:=first|omega|(simp;omega)) [z8a]
  rw[z3e]
  refine⟨by simp,fun h16=> ?_,fun h16=> ?_⟩<;>simp at h16
  ·simp(disch:=first|omega|(simp;omega)) [z8a]
   refine⟨by omega,?_⟩
   refine z7a fun Q2 hQ2=> ?_
   refine z4f (fun j:Nat=>⟨[(0,.sl .plain nl 64 (bys b))],[(2,.bp 2 0),(3,.bp 3 0),(4,i64 t),(11,i64 t),(22,.sl .plain nl 4 (bys ((b.drop (4*t)).take 4))),(23,i64 4),(24,i64 j)],
     [(2,some (z3o (z3k 64))),(3,some (z3o (z5v b t++ldw b t j::z3k (63-t))))]⟩)
    (fun j=>4-j) (· ≤4) 0 ?_ (by decide) fun j hj=> ?_
   ·have e1:(4*(t:Int)+4).toNat-(4*(t:Int)).toNat=4:=by omega
    have e2:(4*(t:Int)).toNat=4*t:=by omega
    rw[e1,e2,z6Z (show t<64 by omega),ldw]
    rfl
   refine z7a fun Q3 hQ3=> ?_
   simp(disch:=first|omega|(simp;omega)) [z8a]
   rw[z3e]
   refine⟨by simp,fun h4=> ?_,fun h4=> ?_⟩<;>simp at h4
   ·simp(disch:=first|omega|(simp;omega)) [z8a,z1Da,z4L,z6Ra,z3ea,z6Va,z3y,z5fa]
    repeat' (first|omega|apply And.intro)
    simp(disch:=omega) [hQ3,z8a]
    refine⟨j+1,by omega,by omega,by omega,?_⟩
    rw[ldw]
   ·have e4:j=4:=by omega
    subst e4
    simp(disch:=omega) [hQ3,hQ2,hQ1,z8a]
    refine⟨t+1,by omega,by omega,by omega,?_⟩
    rw[z5v,z8cb,if_pos (by omega),show 64-(t+1)=63-t by omega]
    simp
  ·simp(disch:=first|omega|(simp;omega)) [z8a,h13,z1ib,z6lc,z6Ib,z1Mb,z6Pb,z4L,z3y,z9Na]
   repeat' (first|omega|apply And.intro)
   simp[hQ1]
   refine⟨t+1,by omega,by omega,by omega,?_⟩
   rw[z5v,z8cb,if_neg (by omega),show 64-(t+1)=63-t by omega,z6Z (by omega),show((t:Int)-16).toNat=t-16 by omega,show((t:Int)-15).toNat=t-15 by omega,show((t:Int)-7).toNat=t-7 by omega,show((t:Int)-2).toNat=t-2 by omega]
   simp[sg0,sg1]
 ·have e:t=64:=by omega
  subst e
  simp(disch:=simp[hl]) [hQ1,hQ0,z0j,hl,List.take_of_length_le,z3k]
end Go.Abs
end

section
namespace Go.Abs
theorem z48b:kc.length=64:=rfl
def z0ya (s:List UInt32) (v e:List UInt32):Nat→List UInt32
 |0=>s
 |t+1=>((z0ya s v e t).set t (z3s (z0ya s v e t) t+z3s v t)).set (t+4) (z3s ((z0ya s v e t).set t (z3s (z0ya s v e t) t+z3s v t)) (t+4)+z3s e t)
theorem z8Ta (s v e:List UInt32):∀t,(z0ya s v e t).length=s.length
 |0=>rfl
 |t+1=>by simp[z0ya,z8Ta s v e t]
theorem z5gc (s v:H8):z0ya s.l [v.a,v.b,v.c,v.d] [v.e,v.f,v.g,v.h] 4=(s.add v).l:=rfl

theorem z5pb (E:Env) (hT:E.T 0=z3o kc) (h10:E.G 10=z3M) (h11:E.G 11=z6Db):∀ds,z1aa.pre ds→ds.length=z7m.n∧awp E z7m.body (z2q z7m.res (z1aa.post ds)) (z9b z7m.wr ds):=by
 rintro _ ⟨s,nl,b,hb,rfl⟩
 have hl:=z4z b 64
 have hk:=z48b
 simp(disch:=first|omega|(simp;omega)) [z7m,h10,h11,z3M,z6Db,z1aa,hT]
 refine⟨hb,hl,by omega,?_⟩
 refine z7a fun Q0 hQ0=> ?_
 refine z4f (fun t:Nat=>⟨[(0,.agg (z3o s.l)),(1,.sl .plain nl 64 (bys b))],
   [(2,.bp 2 0),(4,.bp 4 0),(5,.bp 5 0),(6,.bp 6 0),(7,.bp 7 0),(21,.agg (z3o kc)),(22,i64 t)],
   [(2,some (z3o s.l)),(4,some (z3o (z3k 8))),(5,some (z3o (z5v b 64))),
    (6,some (z3o [(z6oa (z5v b 64) s t).a,(z6oa (z5v b 64) s t).b,(z6oa (z5v b 64) s t).c,(z6oa (z5v b 64) s t).d])),
    (7,some (z3o [(z6oa (z5v b 64) s t).e,(z6oa (z5v b 64) s t).f,(z6oa (z5v b 64) s t).g,(z6oa (z5v b 64) s t).h]))]⟩)
  (fun t=>64-t) (· ≤64) 0 ?_ (by decide) fun t ht=> ?_
 ·have e:kc.take 64=kc:=rfl
  simp(disch:=simp[hl]) [z0j,z6oa,H8.l,e]
 refine z7a fun Q1 hQ1=> ?_
 simp(disch:=first|omega|(simp;omega)) [z8a]
 rw[z3e]
 refine⟨by simp,fun h=> ?_,fun h=> ?_⟩<;>simp at h
 ·generalize hr:z6oa (z5v b 64) s t=r at*
  simp(maxSteps:=2000000) (disch:=first|omega|(simp;omega)) [z8a,z8ha,h11,z6Db,z4gc,z3Hb,z3Yb,z4nc,z6Lb,z9Jb,z4L,z9ha,hl,hk,z0j]
  repeat' (first|omega|apply And.intro)
  rw[hQ1]
  simp[z8ha]
  refine⟨t+1,by omega,by omega,by omega,?_⟩
  have sf:∀a b c d x y z w:z2a,splice [a,b,c,d] 0 [x,y,z,w]=[x,y,z,w]:=fun a b c d x y z w=>rfl
  simp only[z6oa,hr,sf,rnd,and_self]
 ·have e:t=64:=by omega
  subst e
  simp[hQ1,hQ0]
  refine z7a fun Q2 hQ2=> ?_
  generalize hv:z6oa (z5v b 64) s 64=v at*
  refine z4f (fun t:Nat=>⟨[(0,.agg (z3o s.l)),(1,.sl .plain nl 64 (bys b))],
   [(2,.bp 2 0),(4,.bp 4 0),(6,.bp 6 0),(7,.bp 7 0),(94,i64 t)],
   [(2,some (z3o (z0ya s.l [v.a,v.b,v.c,v.d] [v.e,v.f,v.g,v.h] t))),(4,some (z3o (z3k 8))),(5,some (z3o (z5v b 64))),
    (6,some (z3o [v.a,v.b,v.c,v.d])),(7,some (z3o [v.e,v.f,v.g,v.h]))]⟩)
   (fun t=>4-t) (· ≤4) 0 rfl (by decide) fun t ht=> ?_
  refine z7a fun Q3 hQ3=> ?_
  simp(disch:=first|omega|(simp;omega)) [z8a]
  rw[z3e]
  have ha:=z8Ta s.l [v.a,v.b,v.c,v.d] [v.e,v.f,v.g,v.h] t
  rw[H8.len] at ha
  refine⟨by simp,fun h=> ?_,fun h=> ?_⟩<;>simp at h
  ·simp(disch:=first|omega|(simp;omega)) [z8a,z4L,z3y]
   repeat' (first|omega|apply And.intro)
   have e4:((t:Int)+4).toNat=t+4:=by omega
   rw[e4,z3y (by rw[List.length_set,ha];omega),hQ3]
   simp
   exact⟨t+1,by omega,by omega,by omega,rfl⟩
  ·have e:t=4:=by omega
   subst e
   simp[hQ3,hQ2,z5gc,z0j,z30a,hv]
   rfl
end Go.Abs
end

section
namespace Go.Abs
theorem z5Xb (E:Env) (h4:E.G 4=z1aa):∀ds,z4Na.pre ds→ds.length=z0l.n∧awp E z0l.body (z2q z0l.res (z4Na.post ds)) (z9b z0l.wr ds):=by
 rintro _ ⟨s,m,hb,rfl⟩
 simp(disch:=first|omega|(simp;omega)) [z0l,h4,z1aa,z4Na,z8t.v,hb,z2D,z8t.of_scs]
 refine z7a fun Q0 hQ0=> ?_
 refine z4f (fun k:Nat=>⟨[(0,.agg (scs s))],[(1,st (m.drop k)),(2,.bp 2 0),(4,.bp 4 0)],
   [(2,some (scs (s.add (m.take k)))),(4,some (z3o (z3k 8)++(bys (z9m 64)++[u64 0])))]⟩)
  (fun k=>m.length-k) (· ≤m.length) 0 (by simp[z8t.add]) (by simp) fun k hk=> ?_
 refine z7a fun Q1 hQ1=> ?_
 have hb':(s.add (m.take k)).b.length=64:=by rw[z08,hb]
 simp(disch:=first|omega|(simp;omega)) [z8a]
 rw[z3e]
 refine⟨by simp,fun h=> ?_,fun h=> ?_⟩<;>simp at h
 ·generalize hs:s.add (m.take k)=s' at*
  generalize hr:m.drop k=r at*
  have hrl:r.length=m.length-k:=by rw[←hr];simp
  have hn:s'.n.toNat% 64<64:=Nat.mod_lt _ (by decide)
  simp(disch:=first|omega|(simp;omega)) [z8a,z2D,z3ob,z9Ob,z8Rb,z7wa,z23a,z86a,hb']
  refine⟨by omega,by omega,by omega,?_⟩
  refine z7a fun Q2 hQ2=> ?_
  generalize hj:min r.length (64-s'.n.toNat% 64)=j at*
  have hjl:j≤r.length:=by omega
  have hpiece:=z2ga s' hb' j (r.take j) (by simp;omega) (by omega)
  have hstep:s.add (m.take (k+j))=s'.add (r.take j):=by rw[List.take_add,z3R,hs,hr]
  have hrest:(r.drop j).take (r.length-j)=m.drop (k+j):=by
   rw[List.take_of_length_le (by simp),←hr,List.drop_drop]
  have hof:UInt64.ofInt (j:Int)=UInt64.ofNat j:=by
   apply UInt64.toNat_inj.1
   rw[z71,UInt64.toNat_ofNat']
   omega
  rw[z3e]
  refine⟨by simp,fun h30=> ?_,fun h30=> ?_⟩<;>simp at h30
  ·generalize hS:(⟨s'.h,_,_⟩:z8t)=S at*
   have hSb:S.b.length=64:=by rw[←hS];simp[hb'];omega
   simp(disch:=first|omega|(simp;omega)) [h4,z1aa,z2D,z9Ob,z8Rb,z7wa,hSb]
   refine⟨⟨_,_,_,hSb,rfl,rfl,rfl⟩,?_⟩
   simp[hQ2,hQ1]
   refine⟨k+j,by omega,by omega,hrest,?_⟩
   rw[hstep,hpiece,if_pos (by omega),←hS,hof]
  ·simp[hQ2,hQ1]
   refine⟨k+j,by omega,by omega,hrest,?_⟩
   rw[hstep,hpiece,if_neg (by omega),hof]
 ·have e:k=m.length:=by omega
  subst e
  have hm:(s.add m).b.length=64:=by rw[z08,hb]
  simp[hQ1,hQ0,z2D hm,z0sa hm z1Oa,z5eb hm]
end Go.Abs
end

section
namespace Go.Abs
theorem z4dc (E:Env) (h1:E.G 1=z4Na):∀ds,z61a.pre ds→ds.length=z7k.n∧awp E z7k.body (z2q z7k.res (z61a.post ds)) (z9b z7k.wr ds):=by
 rintro _ ⟨s,hb,hn,rfl⟩
 simp(disch:=first|omega|(simp;omega)) [z7k,h1,z4Na,z61a,z8t.v,hb,z2D,z8t.of_scs,z3ob]
 refine z7a fun Q0 hQ0=> ?_
 refine z4f (fun k:Nat=>⟨[(0,.agg (scs s))],[(1,.bp 1 0),(2,.bp 2 0),(3,u64 (8*s.n)),(4,.sl (.own 1) (some false) (k+1) (bys (128::z9m k)))],
   [(1,some (scs s)),(2,some (bys (z9m 32)))]⟩)
  (fun k=>z3na s.n.toNat-k) (· ≤z3na s.n.toNat) 0 rfl (by simp) fun k hk=> ?_
 have hz:=z1Ga s.n.toNat
 have hzo:=z8Ha s.n.toNat
 refine z7a fun Q1 hQ1=> ?_
 simp(disch:=first|omega|(simp;omega)) [z8a,z2D,z3ob,hb]
 rw[z3e]
 refine⟨by simp,fun h=> ?_,fun h=> ?_⟩<;>simp at h<;>rw[Int.tmod_eq_emod_of_nonneg (by omega)] at h
 ·simp(disch:=first|omega|(simp;omega)) [z8a,hQ1]
  clear hQ0 hQ1
  refine⟨by omega,?_⟩
  refine⟨k+1,by omega,by omega,by omega,?_⟩
  rw[show [u8 0]=bys [0] from rfl,←z8E,←z2ha]
  simp
 ·have e:k=z3na s.n.toNat:=by omega
  subst e
  simp[hQ1,hQ0]
  refine z7a fun Q2 hQ2=> ?_
  refine z4f (fun i:Nat=>⟨[(0,.agg (scs s))],[(1,.bp 1 0),(2,.bp 2 0),(3,u64 (8*s.n)),(4,.sl (.own 1) (some false) (z3na s.n.toNat+1+i) (bys (128::z9m (z3na s.n.toNat)++be8 (8*s.n) i))),(23,i64 i)],
    [(1,some (scs s)),(2,some (bys (z9m 32)))]⟩)
   (fun i=>8-i) (· ≤8) 0 (by simp[be8]) (by decide) fun i hi=> ?_
  have hbe:=z76 (8*s.n) i
  refine z7a fun Q3 hQ3=> ?_
  simp(disch:=first|omega|(simp;omega)) [z8a]
  rw[z3e]
  refine⟨by simp,fun h=> ?_,fun h=> ?_⟩<;>simp at h
  ·have e7:((56:Int)-8*(i:Int)).toNat=56-8*i:=by omega
   simp(disch:=first|omega|(simp;omega)) [z8a,e7]
   repeat' (first|omega|apply And.intro)
   rw[hQ3]
   simp
   refine⟨i+1,by omega,by omega,⟨by omega,?_⟩,by omega⟩
   rw[be8,show [u8 (z1ba (8*s.n) (56-8*i)).toUInt8]=bys [(z1ba (8*s.n) (56-8*i)).toUInt8] from rfl,←z8E]
   simp
  ·have e:i=8:=by omega
   subst e
   simp(disch:=first|omega|(simp;omega)) [hQ3,hQ2,h1,z4Na,z8t.v,z2D,z5eb,z0sa,hb,z8t.of_scs,z08]
   generalize hS:s.add (128::(z9m (z3na s.n.toNat)++be8 (8*s.n) 8))=S at*
   have hSb:S.b.length=64:=by rw[←hS,z08,hb]
   have hsum:s.sum=z0fb S.h 32:=by rw[←hS];rfl
   rw[z0sa hSb (z2D hb),hsum]
   clear hQ1 hQ2 hQ3 hQ0
   refine⟨?_,⟨s,hb,rfl⟩,z2D hSb,?_⟩
   ·have:=z76 (8*s.n) 8
    simp[this]
   refine z7a fun Q4 hQ4=> ?_
   refine z4f (fun i:Nat=>⟨[(0,.agg (scs s))],[(1,.bp 1 0),(2,.bp 2 0),(6,.bp 6 0),(40,i64 i)],
     [(1,some (scs S)),(2,some (bys (z9m 32))),(6,some (bys (z0fb S.h i++z9m (32-i))))]⟩)
    (fun i=>32-i) (· ≤32) 0 rfl (by decide) fun i hi=> ?_
   have ho:=z55 S.h i
   refine z7a fun Q5 hQ5=> ?_
   simp(disch:=first|omega|(simp;omega)) [z8a]
   rw[z3e]
   refine⟨by simp,fun h=> ?_,fun h=> ?_⟩<;>simp at h
   ·have e4:(i:Int).tmod 4=((i% 4:Nat):Int):=by rw[Int.tmod_eq_emod_of_nonneg (by omega)];rfl
    have e5:((i:Int)/4).toNat=i/4:=by omega
    have e6:((24:Int)-8*((i% 4:Nat):Int)).toNat=24-8*(i% 4):=by omega
    simp(disch:=first|omega|(simp;omega)) [z8a,e4,e5,z5dc,z2D hSb]
    refine⟨by omega,by omega,by omega,by omega,by omega,?_⟩
    have e7:((24:Int)-8*((i:Int)% 4)).toNat=24-8*(i% 4):=by omega
    rw[e7,z07 (by simp;omega),z0Sa (by omega),z5fa ho.symm,hQ5]
    simp
    refine⟨i+1,by omega,by omega,by omega,?_⟩
    rw[z0fb,show 32-(i+1)=32-1-i by omega]
    simp
   ·have e:i=32:=by omega
    subst e
    simp(disch:=simp[ho]) [hQ5,hQ4,z0j,ho,List.take_of_length_le,z9m]
end Go.Abs
end

section
namespace Go.Abs
theorem z3Kb (E:Env) (h0:E.G 0=z5V) (h1:E.G 1=z4Na) (h2:E.G 2=z61a):∀ds,z5ra.pre ds→ds.length=z0z.n∧awp E z0z.body (z2q z0z.res (z5ra.post ds)) (z9b z0z.wr ds):=by
 rintro _ ⟨nl,l,hl,rfl⟩
 have hb:(z8t.init.add l).b.length=64:=by rw[z08,z8ca]
 have hn:(z8t.init.add l).n.toNat<1099511627776:=by rw[z6ga _ _ (by show 0+l.length<_;omega)];show 0+l.length<_;omega
 simp(disch:=first|omega|(simp;omega)) [z0z,h0,h1,h2,z5V,z4Na,z61a,z5ra,z8t.v,z8t.of_scs _ z8ca,z8t.of_scs _ hb,z0j]
 have hs:(z8t.init.add l).sum.length=32:=z55 _ 32
 refine⟨⟨_,z8ca,rfl⟩,⟨_,hb,hn,rfl⟩,hs,?_⟩
 rw[z0j (by simp[hs])]
 simp[hs,sha,List.take_of_length_le]
end Go.Abs
end

section
namespace Go.Abs
theorem z97a {k:List UInt8} {w:UInt8} {i:Nat} (hi:i<64):at8 (z54 k w) i=at8 (z54 k 0) i^^^w:=by
 have h1:=z5Z k w
 have h2:=z5Z k 0
 simp only[at8,List.getD,List.getElem?_eq_getElem (show i<(z54 k w).length by omega),List.getElem?_eq_getElem (show i<(z54 k 0).length by omega),Option.getD_some]
 simp only[z54,List.getElem_map]
 simp
theorem z5gb (k:List UInt8):z54 k 0=k.take 64++z9m (64-k.length):=by
 rw[z54,show(fun x:UInt8=>x^^^0)=id from funext fun x=>by simp]
 simp
theorem z4Pb (E:Env):∀ds,z5qa.pre ds→ds.length=z5r.n∧awp E z5r.body (z2q z5r.res (z5qa.post ds)) (z9b z5r.wr ds):=by
 rintro _ ⟨w,key,rfl⟩
 simp(maxSteps:=1000000) (disch:=first|omega|(simp;done)|(simp;omega)) [z8a,z1a,z0a,z5r,z5qa]
 refine z7a fun Q0 hQ0=> ?_
 refine z4f (fun i:Nat=>⟨[(0,u8 w),(1,.ep [st key])],[(4,.bp 4 0),(9,i64 i)],
   [(4,some (bys ((z54 key w).take i++(z54 key 0).drop i)))]⟩)
  (fun i=>64-i) (· ≤64) 0 ?_ (by decide) fun i hi=> ?_
 ·simp only[z5gb,splice,←z8E,List.take_zero,List.nil_append,List.drop_zero,z7oa,z4Qb,z4sa,List.length_take]
  rcases Nat.le_total key.length 64 with h|h
  ·simp only[z5la,Nat.min_eq_left h,List.take_length,Nat.min_self,Nat.zero_add,Int.ofNat_zero,List.take_of_length_le h]
  ·simp only[z5la,Nat.min_eq_right h,Nat.min_eq_left h,Nat.zero_add,Nat.sub_eq_zero_of_le h,Nat.sub_self,Int.ofNat_zero]
 have hp:=z5Z key w
 have hp0:=z5Z key 0
 refine z7a fun Q1 hQ1=> ?_
 simp(maxSteps:=1000000) (disch:=first|omega|(simp;done)|(simp;omega)) [z8a,z1a,z0a]
 rw[z3e]
 refine⟨by simp,fun h=> ?_,fun h=> ?_⟩<;>simp at h
 ·simp(maxSteps:=1000000) (disch:=first|omega|(simp;done)|(simp;omega)) [z8a,z1a,z0a,z1Da,z3ea,z07]
  have hs:(List.drop i (z54 key 0)).set 0 (at8 (z54 key 0) i^^^w)=at8 (z54 key w) i::List.drop (i+1) (z54 key 0):=by
   rw[z97a (w:=w) (by omega),List.drop_eq_getElem_cons (by omega)];rfl
  repeat' (first|omega|apply And.intro)
  rw[hs,hQ1]
  simp
  refine⟨i+1,by omega,by omega,by omega,?_⟩
  rw[List.take_succ_eq_append_getElem (show i<(z54 key w).length by omega)]
  simp only[at8,List.getD,List.getElem?_eq_getElem (show i<(z54 key w).length by omega),Option.getD_some,List.append_assoc,List.cons_append,List.nil_append]
 ·have e:i=64:=by omega
  subst e
  simp[hQ1,hQ0,List.take_of_length_le,List.drop_of_length_le,hp,hp0]
theorem z3ec (E:Env) (h0:E.G 0=z5V) (h1:E.G 1=z4Na) (h2:E.G 2=z61a) (h3:E.G 3=z5ra) (h5:E.G 5=z5qa):∀ds,z1Ab.pre ds→ds.length=z6y.n∧awp E z6y.body (z2q z6y.res (z1Ab.post ds)) (z9b z6y.wr ds):=by
 rintro _ ⟨key,text,hk,ht,rfl⟩
 simp(maxSteps:=1000000) (disch:=first|omega|(simp;done)|(simp;omega)) [z8a,z1a,z0a,z6y]
 refine z7a fun Q0 hQ0=> ?_
 have key2:∀k:List UInt8,k.length<1099511627776→k=z1T key→∀b5,(b5=[]∨∃c,b5=[(5,c)])→Q0 .normal ⟨[(0,st key),(1,st text)],[(2,.bp 2 0)],(2,some [st k])::b5⟩:=by
  intro k hk hkk b5 hb5
  subst hkk
  rcases hb5 with rfl|⟨c,rfl⟩<;>simp(maxSteps:=1000000) (disch:=first|omega|(simp;done)|(simp;omega)) [z8a,z1a,z0a,hQ0,h0,h1,h2,h5,z9Vb,z72,List.take_of_length_le]<;>rfl
 rw[z3e]
 refine⟨by simp,fun h=> ?_,fun h=> ?_⟩<;>simp at h
 ·simp(maxSteps:=1000000) (disch:=first|omega|(simp;done)|(simp;omega)) [z8a,z1a,z0a,h3,z1sb,z72]
  repeat' (first|omega|apply And.intro)
  simp[List.take_of_length_le]
  exact key2 _ (by simp) (by rw[z1T,if_pos (by omega)]) _ (.inr ⟨_,rfl⟩)
 ·simp
  exact key2 _ hk (by rw[z1T,if_neg (by omega)]) _ (.inl rfl)
end Go.Abs
end
