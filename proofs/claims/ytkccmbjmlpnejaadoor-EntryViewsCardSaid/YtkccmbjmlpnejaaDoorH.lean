/- Lemmas: an abstract interpreter, and what the functions compute. -/
import Derived.Test.YtkccmbjmlpnejaaDoorT
import Derived.Test.YtkccmbjmlpnejaaDoorE
set_option linter.unusedSimpArgs false
set_option linter.unusedVariables false
set_option linter.unusedSectionVars false
section
namespace Go.Abs
set_option maxRecDepth 20000
theorem notU {N:Nat} (hN:N<2^63):W (((18446744073709551615-N:Nat)):Int)= -1-(N:Int):=by
 unfold W IntKind.wrap IntKind.bits IntKind.signed
 simp only[Bool.true_and]
 split<;>rename_i h<;>simp at h⊢<;>omega
theorem z1hb (E:Env):∀ds,z7K.pre ds→ds.length=z0o.n∧awp E z0o.body (z1A z0o.res (z7K.post ds)) (z9c z0o.wr ds):=by
 rintro _ ⟨nl,b,hb,rfl⟩
 rw[z7K,z7Da]
 cases b with
 |nil=>
  simp(maxSteps:=1000000) (disch:=first|omega|(simp;done)|(simp;omega)) [z9a,z1a,z0a,z0o,vI,z6l,z3p]
  rw[z7b]
  refine⟨by simp,fun h=> ?_,fun h=> ?_⟩<;>simp at h
  simp
 |cons h t=>
  simp only[List.length_cons] at hb
  simp(maxSteps:=1000000) (disch:=first|omega|(simp;done)|(simp;omega)) [z9a,z1a,z0a,z0o]
  rw[z7b]
  refine⟨by simp,fun h0=> ?_,fun h0=> ?_⟩<;>simp at h0
  ·omega
  simp(maxSteps:=1000000) (disch:=first|omega|(simp;done)|(simp;omega)) [z9a,z1a,z0a,z94,z8Xa]
  refine z3a fun Q0 hQ0=> ?_
  have hk:=z6Ua h
  have hlt:=h.toNat_lt
  have key:Q0 .normal ⟨[(0,.sl .plain nl (t.length+1) (bys (h::t)))],[(5,u8 (if h<128 then 255 else 0))],[]⟩:=by
   have hx:h^^^(if h<128 then 255 else 0)=fl h h:=z8nb h h
   have hkn:((fl h h).toNat:Int)-128=kOf h:=by
    unfold kOf fl
    split
    ·rename_i hh;have:=(z39a h).1 hh;rw[z34a];omega
    ·rename_i hh;have:¬h.toNat<128:=fun e=>hh ((z39a h).2 e)
     omega
   have hx1:at8 t 0^^^(if h<128 then 255 else 0)=fl h (at8 t 0):=z8nb h _
   have hkb:kOf h≤128:=by rw[hk];split<;>omega
   generalize hfl:(if h<128 then(255:UInt8) else 0)=flip at*
   simp(maxSteps:=1000000) (disch:=first|omega|(simp;done)|(simp;omega)) [z9a,z1a,z0a,hQ0,z84,hx,z8Xa,hkn]
   rw[z7b]
   refine⟨by simp,fun h1=> ?_,fun h1=> ?_⟩<;>simp at h1
   ·rw[vI,z5tc (by omega)]
    simp(maxSteps:=1000000) (disch:=first|omega|(simp;done)|(simp;omega)) [z9a,z1a,z0a,z3p]
   have h1':¬8<kOf h:=by omega
   simp(maxSteps:=1000000) (disch:=first|omega|(simp;done)|(simp;omega)) [z9a,z1a,z0a]
   rw[z7b]
   refine⟨by simp,fun h2=> ?_,fun h2=> ?_⟩<;>simp at h2
   ·rw[vI,z3xc h1' (by omega)]
    simp(maxSteps:=1000000) (disch:=first|omega|(simp;done)|(simp;omega)) [z9a,z1a,z0a,z3p]
   have h2':¬t.length<kOf h:=by omega
   have hfin:¬(0<kOf h∧fl h (at8 t 0)=0)→awp E z3P (z1A [.t 2,.t 3,.t 4] (vI (h::t))) ⟨[(0,.sl .plain nl (t.length+1) (bys (h::t)))],[(5,u8 flip),(6,i64 (kOf h))],[]⟩:=by
    intro h3
    generalize hds:(t.take (kOf h)).map (fl h)=ds
    have hdl:ds.length=kOf h:=by rw[←hds];simp;omega
    have hda:∀i,i<kOf h→at8 t i^^^flip=at8 ds i:=fun i hi=>by
     rw[←hfl,z8nb,←hds]
     simp only[at8,List.getD,List.getElem?_map,List.getElem?_take,if_pos hi,List.getElem?_eq_getElem (show i<t.length by omega)]
     rfl
    have hM:∀i,i≤8→(UInt64.ofNat (z8ia (ds.take i))).toNat=z8ia (ds.take i):=fun i hi=>by
     have:=z7na ds i 8 hi
     rw[UInt64.toNat_ofNat'];omega
    simp(maxSteps:=1000000) (disch:=first|omega|(simp;done)|(simp;omega)) [z9a,z1a,z0a,z3P]
    refine⟨by omega,?_⟩
    refine z3a fun Q1 hQ1=> ?_
    refine z4d (fun i:Nat=>⟨[(0,.sl .plain nl (t.length+1) (bys (h::t)))],
      [(5,u8 flip),(6,i64 (kOf h)),(7,u64 (UInt64.ofNat (z8ia (ds.take i)))),(46,.sl .plain nl (kOf h) (bys (t.take (kOf h)))),(47,i64 (kOf h)),(48,i64 i)],[]⟩)
     (fun i=>kOf h-i) (· ≤kOf h) 0 rfl (by simp) fun i hi=> ?_
    refine z3a fun Q2 hQ2=> ?_
    simp(maxSteps:=1000000) (disch:=first|omega|(simp;done)|(simp;omega)) [z9a,z1a,z0a,z15]
    rw[z7b]
    refine⟨by simp,fun h5=> ?_,fun h5=> ?_⟩<;>simp at h5
    ·have hi':i<kOf h:=by omega
     have hi8:i≤7:=by omega
     have hstep:z5xb (UInt64.ofNat (z8ia (ds.take i))) 8|||(at8 ds i).toUInt64=UInt64.ofNat (z8ia (ds.take (i+1))):=by
      apply UInt64.toNat_inj.1
      rw[z3tc (hM i (by omega)) (z7na ds i 7 hi8),hM _ (by omega),z2ob (by omega)]
     have hda':=hda i hi'
     simp(maxSteps:=1000000) (disch:=first|omega|(simp;done)|(simp;omega)) [z9a,z1a,z0a,z26,z7ya,z22a,hda',hstep,hQ2]
     refine⟨by omega,by omega,i+1,by omega,by omega,by simp⟩
    ·have e:i=kOf h:=by omega
     subst e
     have hT:ds.take (kOf h)=ds:=List.take_of_length_le (by omega)
     have hM8:=hM (kOf h) (by omega)
     rw[hT] at hM8
     simp(maxSteps:=1000000) (disch:=first|omega|(simp;done)|(simp;omega)) [z9a,z1a,z0a,hQ2,hQ1,z25,hT]
     have hpos:=z0ta (m:=63) hM8
     generalize hV:z8ia ds=V at*
     generalize UInt64.ofNat V=U at*
     rw[z7b]
     refine⟨by simp,fun h6=> ?_,fun h6=> ?_⟩<;>simp at h6
     ·rw[vI,z4Hc h1' h2' (by rw[hds,hV];exact hpos.1 h6)]
      simp(maxSteps:=1000000) (disch:=first|omega|(simp;done)|(simp;omega)) [z9a,z1a,z0a,z3p]
     ·have h6':¬2^63≤V:=fun e=>by have:=hpos.2 e;rw[h6] at this;exact absurd this (by decide)
      rw[vI,z9Ac h1' h2' h3 (by rw[hds,hV];exact h6'),hds,hV]
      have hU:=notU (N:=V) (by omega)
      simp(maxSteps:=1000000) (disch:=first|omega|(simp;done)|(simp;omega)) [z9a,z1a,z0a,z16]
      by_cases hh:h<128
      ·rw[if_pos hh] at hfl
       subst hfl
       rw[z7b]
       refine⟨by simp,fun h7=> ?_,fun h7=> ?_⟩<;>simp at h7
       simp(maxSteps:=1000000) (disch:=first|omega|(simp;done)|(simp;omega)) [z9a,z1a,z0a,z9P,hM8,hU,hh,z3p]
      ·rw[if_neg hh] at hfl
       subst hfl
       rw[z7b]
       refine⟨by simp,fun h7=> ?_,fun h7=> ?_⟩<;>simp at h7
       simp(maxSteps:=1000000) (disch:=first|omega|(simp;done)|(simp;omega)) [z9a,z1a,z0a,z9P,hM8,hU,hh,z3p]
   by_cases hk0:kOf h=0
   ·simp(maxSteps:=1000000) (disch:=first|omega|(simp;done)|(simp;omega)) [z9a,z1a,z0a,dT,dF,hk0]
    rw[z7b]
    refine⟨by simp,fun h3=> ?_,fun h3=> ?_⟩<;>simp at h3
    simp
    rw[hk0] at hfin
    exact hfin (by simp)
   ·simp(maxSteps:=1000000) (disch:=first|omega|(simp;done)|(simp;omega)) [z9a,z1a,z0a,dT,dF,z8Xa,hx1]
    refine⟨by omega,by omega,?_⟩
    rw[z7b]
    refine⟨by simp,fun h3=> ?_,fun h3=> ?_⟩<;>simp at h3
    ·rw[vI,z6pc h1' h2' ⟨by omega,h3⟩]
     simp(maxSteps:=1000000) (disch:=first|omega|(simp;done)|(simp;omega)) [z9a,z1a,z0a,z3p]
    ·simp
     exact hfin (by simp[h3])
  rw[z7b]
  refine⟨by simp,fun hh=> ?_,fun hh=> ?_⟩<;>simp at hh
  ·rw[if_pos hh] at key
   simpa using key
  ·rw[if_neg (by simpa using hh)] at key
   simpa using key
end Go.Abs
end

section
namespace Go.Abs
theorem z1tc (E:Env) (h45:E.G 45=z7K):∀ds,z37a.pre ds→ds.length=z1o.n∧awp E z1o.body (z1A z1o.res (z37a.post ds)) (z9c z1o.wr ds):=by
 rintro _ ⟨nl,b,s,hb,hs0,hs1,rfl⟩
 rw[z37a,z5yb,Int.toNat_natCast]
 rcases z6Da b with⟨n,u,hg⟩|hg|hg
 ·obtain⟨h1,h2,h3,h4⟩:=z9ta hg
  have hq:((b.length:Int)-u).tdiv s=(((b.length-u)/s:Nat):Int):=by
   rw[Int.tdiv_eq_ediv_of_nonneg (by omega),show(b.length:Int)-u=((b.length-u:Nat):Int) by omega];rfl
  have hq2:(b.length-u)/s≤b.length:=Nat.le_trans (Nat.div_le_self _ _) (by omega)
  have hE:z6Ra b s=if n<0 then 6 else if(b.length-u)/s<n.toNat then 5 else 0:=by unfold z6Ra;rw[hg];simp
  rw[hE,hg]
  generalize(b.length-u)/s=q at*
  have hu9:=z4l h1
  simp(maxSteps:=1000000) (disch:=first|omega|(simp;done)|(simp;omega)) [z9a,z1a,z0a,z1o,h45,z7K,z5ea,vI,hg,z3p,hq]
  rw[z7b]
  refine⟨by simp,fun h=> ?_,fun h=> ?_⟩<;>simp at h
  simp(maxSteps:=1000000) (disch:=first|omega|(simp;done)|(simp;omega)) [z9a,z1a,z0a]
  rw[z7b]
  refine⟨by simp,fun h5=> ?_,fun h5=> ?_⟩<;>simp at h5
  ·simp(maxSteps:=1000000) (disch:=first|omega|(simp;done)|(simp;omega)) [z9a,z1a,z0a,h5,z5r]
  simp(maxSteps:=1000000) (disch:=first|omega|(simp;done)|(simp;omega)) [z9a,z1a,z0a,hq]
  refine⟨by omega,?_⟩
  rw[z7b]
  refine⟨by simp,fun h6=> ?_,fun h6=> ?_⟩<;>simp at h6
  ·have e1:¬n<0:=by omega
   simp(maxSteps:=1000000) (disch:=first|omega|(simp;done)|(simp;omega)) [z9a,z1a,z0a,h6,z5r,e1]
  ·have e1:¬n<0:=by omega
   have e2:¬(q:Int)<n:=by omega
   simp(maxSteps:=1000000) (disch:=first|omega|(simp;done)|(simp;omega)) [z9a,z1a,z0a,h6,z5r,e1,e2]
 ·simp(maxSteps:=1000000) (disch:=first|omega|(simp;done)|(simp;omega)) [z9a,z1a,z0a,z1o,h45,z7K,z5ea,vI,hg,z6Ra,z3p]
  rw[z7b]
  refine⟨by simp,fun h=> ?_,fun h=> ?_⟩<;>simp at h
  simp(maxSteps:=1000000) (disch:=first|omega|(simp;done)|(simp;omega)) [z9a,z1a,z0a,z5r]
 ·simp(maxSteps:=1000000) (disch:=first|omega|(simp;done)|(simp;omega)) [z9a,z1a,z0a,z1o,h45,z7K,z5ea,vI,hg,z6Ra,z3p]
  rw[z7b]
  refine⟨by simp,fun h=> ?_,fun h=> ?_⟩<;>simp at h
  simp(maxSteps:=1000000) (disch:=first|omega|(simp;done)|(simp;omega)) [z9a,z1a,z0a,z5r]
theorem z9Xa (E:Env) (h47:E.G 47=z37a):∀ds,z0T.pre ds→ds.length=z3j.n∧awp E z3j.body (z1A z3j.res (z0T.post ds)) (z9c z3j.wr ds):=by
 rintro _ ⟨nl,b,hb,rfl⟩
 rw[z0T,z7Da,z9ea]
 rcases z3ga b 1 (by decide) with(hE|hE)|⟨hE,n,u,hg,hu,hn,hu9⟩
 ·simp(maxSteps:=1000000) (disch:=first|omega|(simp;done)|(simp;omega)) [z9a,z1a,z0a,z3j,h47,z37a,z0la,hE,z3p]
  rw[z7b]
  refine⟨by simp,fun h=> ?_,fun h=> ?_⟩<;>simp at h
  simp(maxSteps:=1000000) (disch:=first|omega|(simp;done)|(simp;omega)) [z9a,z1a,z0a]
 ·simp(maxSteps:=1000000) (disch:=first|omega|(simp;done)|(simp;omega)) [z9a,z1a,z0a,z3j,h47,z37a,z0la,hE,z3p]
  rw[z7b]
  refine⟨by simp,fun h=> ?_,fun h=> ?_⟩<;>simp at h
  simp(maxSteps:=1000000) (disch:=first|omega|(simp;done)|(simp;omega)) [z9a,z1a,z0a]
 ·simp(maxSteps:=1000000) (disch:=first|omega|(simp;done)|(simp;omega)) [z9a,z1a,z0a,z3j,h47,z37a,z0la,hE,hg,z3p]
  rw[z7b]
  refine⟨by simp,fun h=> ?_,fun h=> ?_⟩<;>simp at h
  simp(maxSteps:=1000000) (disch:=first|omega|(simp;done)|(simp;omega)) [z9a,z1a,z0a,z3V]
  omega
end Go.Abs
end

section
namespace Go.Abs
theorem z31b (E:Env):∀ds p,z6ka.pre ds→ds.length=z9s.n∧awp E z9s.body (z9Va z9s.res z6ka p ds) (z4da z6ka.bx p ds):=by
 rintro _ p ⟨nl,b,i,hb,hi,rfl⟩
 simp(maxSteps:=1000000) (disch:=first|omega|(simp;done)|(simp;omega)) [z9a,z1a,z0a,z9s,z6ka]
theorem z5Tb (E:Env) (h45:E.G 45=z7K):∀ds p,z9da.pre ds→ds.length=z4p.n∧awp E z4p.body (z9Va z4p.res z9da p ds) (z4da z9da.bx p ds):=by
 rintro _ p ⟨nl,b,i,hb,hi,rfl⟩
 have hu:=z4ia (b.drop i)
 rw[List.length_drop] at hu
 have ht:(b.drop i).take (b.length-i)=b.drop i:=List.take_of_length_le (by simp)
 simp(maxSteps:=1000000) (disch:=first|omega|(simp;done)|(simp;omega)) [z9a,z1a,z0a,z4p,z9da,z1Yb,z8yb,h45,z7K,z5ea,vI,z3p,ht]
 omega
theorem z45a (E:Env) (h47:E.G 47=z37a) (h51:E.M 51=z6ka) (h61:E.M 61=z9da):∀ds,z83.pre ds→ds.length=z5k.n∧awp E z5k.body (z1A z5k.res (z83.post ds)) (z9c z5k.wr ds):=by
 rintro _ ⟨nl,b,hb,rfl⟩
 rw[z83,z7Da,z5x]
 rcases z3ga b 1 (by decide) with(hE|hE)|⟨hE,n,u,hg,hu,hn,hu9⟩
 ·simp(maxSteps:=1000000) (disch:=first|omega|(simp;done)|(simp;omega)) [z9a,z1a,z0a,z5k,h47,z37a,z0la,hE,z3p,vIs]
  rw[z7b]
  refine⟨by simp,fun h=> ?_,fun h=> ?_⟩<;>simp at h
  simp(maxSteps:=1000000) (disch:=first|omega|(simp;done)|(simp;omega)) [z9a,z1a,z0a]
 ·simp(maxSteps:=1000000) (disch:=first|omega|(simp;done)|(simp;omega)) [z9a,z1a,z0a,z5k,h47,z37a,z0la,hE,z3p,vIs]
  rw[z7b]
  refine⟨by simp,fun h=> ?_,fun h=> ?_⟩<;>simp at h
  simp(maxSteps:=1000000) (disch:=first|omega|(simp;done)|(simp;omega)) [z9a,z1a,z0a]
 ·have hu':(u:Int)≤b.length:=by omega
  rw[if_pos hE,hg,Int.toNat_natCast]
  simp(maxSteps:=1000000) (disch:=first|omega|(simp;done)|(simp;omega)) [z9a,z1a,z0a,z5k,h47,z37a,z0la,hE,hg,z3p]
  rw[z7b]
  refine⟨by simp,fun h=> ?_,fun h=> ?_⟩<;>simp at h
  simp(maxSteps:=1000000) (disch:=first|omega|(simp;done)|(simp;omega)) [z9a,z1a,z0a,z12,h51,z8Db]
  refine z3a fun Q0 hQ0=> ?_
  refine z4d (fun p:Nat×List Int×Nat=>⟨[(0,.sl .plain nl b.length (bys b))],
    [(6,i64 p.2.2),(8,.fn 61 [] [.bp 24 0,.bp 1024 0]),(9,.sl (.own 1) none p.2.1.length (z4j p.2.1)),(25,i64 n),(26,i64 p.1)],
    [(24,some [.sl .plain nl b.length (bys b)]),(1024,some [i64 p.2.2])]⟩)
   (fun p=>n-p.1) (fun p=>p.1≤n∧p.2.1.length=p.1∧p.2.2≤b.length∧pre p.2.1 (z4aa z6l (n-p.1) b p.2.2)=z4aa z6l n b u) (0,[],u) rfl ⟨by omega,rfl,hu,z5ac _ _ _ _⟩ fun p hp=> ?_
  obtain⟨i,out,c⟩:=p
  obtain⟨hi,hl,hc,hR⟩:=hp
  simp only at hi hl hc hR
  refine z3a fun Q1 hQ1=> ?_
  simp(maxSteps:=1000000) (disch:=first|omega|(simp;done)|(simp;omega)) [z9a,z1a,z0a,z42]
  rw[z7b]
  refine⟨by simp,fun h1=> ?_,fun h1=> ?_⟩<;>simp at h1
  ·have h1':i<n:=by omega
   obtain⟨k,hk⟩:∃k,n-i=k+1:=⟨n-i-1,by omega⟩
   rw[hk] at hR
   have hc':(c:Int)≤b.length:=by omega
   obtain⟨g1,g2,g3⟩:=z4ia (b.drop c)
   rw[List.length_drop] at g1
   simp(maxSteps:=1000000) (disch:=first|omega|(simp;done)|(simp;omega)) [z9a,z1a,z0a,z82,h61,z3Hb,z3p]
   rw[z7b]
   refine⟨by simp,fun h2=> ?_,fun h2=> ?_⟩<;>simp at h2
   ·have h2':(z6l (b.drop c)).2.2≠0:=by omega
    rw[z4tb h2'] at hR
    simp(maxSteps:=1000000) (disch:=first|omega|(simp;done)|(simp;omega)) [z9a,z1a,z0a,hQ1,hQ0,←hR,vIs,z3p]
   ·have h2':(z6l (b.drop c)).2.2=0:=by omega
    rw[z2xb h2'] at hR
    simp(maxSteps:=1000000) (disch:=first|omega|(simp;done)|(simp;omega)) [z9a,z1a,z0a,z51,hQ1,z3ib]
    refine⟨by omega,i+1,by omega,out++[(z6l (b.drop c)).1],c+(z6l (b.drop c)).2.1,⟨by omega,by simp;omega,by omega,?_⟩,by simp⟩
    rw[show n-(i+1)=k by omega]
    exact hR
  ·have e:i=n:=by omega
   subst e
   rw[Nat.sub_self,z62b] at hR
   simp(maxSteps:=1000000) (disch:=first|omega|(simp;done)|(simp;omega)) [z9a,z1a,z0a,hQ1,hQ0,z8Z,←hR,vIs,z3p]
end Go.Abs
end

section
namespace Go.Abs
theorem z22b (E:Env) (h12:E.G 12=z99a):∀ds,z6G.pre ds→ds.length=z9x.n∧awp E z9x.body (z1A z9x.res (z6G.post ds)) (z9c z9x.wr ds):=by
 rintro _ ⟨nl,l,hl,hm,rfl⟩
 rw[z6G,z88]
 have hi0:=z4l (n:=l.length) (z6Ka (by omega))
 simp(maxSteps:=1000000) (disch:=first|omega|(simp;done)|(simp;omega)) [z9a,z1a,z0a,z9x,h12,z8Ba]
 refine z3a fun Q0 hQ0=> ?_
 refine z4d (fun i:Nat=>⟨[(0,.sl .plain nl l.length (z4j l))],[(3,.sl (.own 1) (some false) (z1t l.length++(l.take i).flatMap z1t).length (bys (z1t l.length++(l.take i).flatMap z1t))),(9,.sl .plain nl l.length (z4j l)),(10,i64 l.length),(11,i64 i)],[]⟩) (fun i=>l.length-i) (· ≤l.length) 0 (by simp) (by simp) fun i hi=> ?_
 refine z3a fun Q1 hQ1=> ?_
 simp(maxSteps:=1000000) (disch:=first|omega|(simp;done)|(simp;omega)) [z9a,z1a,z0a,z7ca,-List.length_flatMap]
 rw[z7b]
 refine⟨by simp,fun h1=> ?_,fun h1=> ?_⟩<;>simp at h1
 ·have h1':i<l.length:=by omega
  have hs:=z1p l z1t 0 h1'
  rw[show l.getD i 0=atI l i from rfl] at hs
  obtain⟨g0,g1⟩:=hm _ (z3ka h1')
  have g2:=z4l (hm _ (z3ka h1'))
  have g3:=z7f (l:=l.take i) fun x hx=>hm x (List.mem_of_mem_take hx)
  rw[List.length_take] at g3
  generalize hF:(l.take i).flatMap z1t=F at*
  generalize hX:atI l i=x at*
  simp(maxSteps:=1000000) (disch:=first|omega|(simp;done)|(simp;omega)) [z9a,z1a,z0a,z5ca,z1ea,hX,h12,z8Ba,hQ1,-List.length_flatMap]
  refine⟨by omega,by omega,by omega,i+1,by omega,by omega,⟨?_,hs.symm⟩,by simp⟩
  rw[hs,List.length_append];omega
 ·have e:i=l.length:=by omega
  subst e
  simp(maxSteps:=1000000) (disch:=first|omega|(simp;done)|(simp;omega)) [z9a,z1a,z0a,hQ1,hQ0,z6ca,z5Uc,z0q,-List.length_flatMap]
theorem z6tb (E:Env) (h30:E.G 30=z8xa):∀ds,z6fa.pre ds→ds.length=z4i.n∧awp E z4i.body (z1A z4i.res (z6fa.post ds)) (z9c z4i.wr ds):=by
 rintro _ ⟨nl,l,hl,hm,rfl⟩
 rw[z6fa,z88]
 have hi0:=z4l (n:=l.length) (z6Ka (by omega))
 simp(maxSteps:=1000000) (disch:=first|omega|(simp;done)|(simp;omega)) [z9a,z1a,z0a,z4i,h30,z9oa]
 refine z3a fun Q0 hQ0=> ?_
 refine z4d (fun i:Nat=>⟨[(0,.sl .plain nl l.length (z4j l))],[(3,.sl (.own 1) none (z1t l.length++(l.take i).flatMap z1t).length (bys (z1t l.length++(l.take i).flatMap z1t))),(4,i64 i)],[]⟩) (fun i=>l.length-i) (· ≤l.length) 0 (by simp) (by simp) fun i hi=> ?_
 refine z3a fun Q1 hQ1=> ?_
 simp(maxSteps:=1000000) (disch:=first|omega|(simp;done)|(simp;omega)) [z9a,z1a,z0a,z0J,-List.length_flatMap]
 rw[z7b]
 refine⟨by simp,fun h1=> ?_,fun h1=> ?_⟩<;>simp at h1
 ·have h1':i<l.length:=by omega
  have hs:=z1p l z1t 0 h1'
  rw[show l.getD i 0=atI l i from rfl] at hs
  obtain⟨g0,g1⟩:=hm _ (z3ka h1')
  have g2:=z4l (hm _ (z3ka h1'))
  have g3:=z7f (l:=l.take i) fun x hx=>hm x (List.mem_of_mem_take hx)
  rw[List.length_take] at g3
  generalize hF:(l.take i).flatMap z1t=F at*
  generalize hX:atI l i=x at*
  simp(maxSteps:=1000000) (disch:=first|omega|(simp;done)|(simp;omega)) [z9a,z1a,z0a,z1J,z1ea,hX,h30,z9oa,hQ1,-List.length_flatMap]
  refine⟨by omega,by omega,by omega,i+1,by omega,by omega,⟨?_,hs.symm⟩,by simp⟩
  rw[hs,List.length_append];omega
 ·have e:i=l.length:=by omega
  subst e
  simp(maxSteps:=1000000) (disch:=first|omega|(simp;done)|(simp;omega)) [z9a,z1a,z0a,hQ1,hQ0,z3J,z5Uc,z0q,-List.length_flatMap]
end Go.Abs
end

section
namespace Go.Abs
end Go.Abs
end
