/- Lemmas: an abstract interpreter, and what the functions compute. -/
import Derived.Test.YtepddcbbkhdfiaaGreatDoorM
import Derived.Test.YtepddcbbkhdfiaaGreatDoorP
import Derived.Test.YtepddcbbkhdfiaaGreatDoorJ
import Derived.Test.YtepddcbbkhdfiaaGreatDoorO
import Derived.Test.YtepddcbbkhdfiaaGreatDoorN
import Derived.Test.YtepddcbbkhdfiaaGreatDoorI
import Derived.Test.YtepddcbbkhdfiaaGreatDoorK
import Derived.Test.YtepddcbbkhdfiaaGreatDoorG
import Derived.KernelRfl
set_option linter.unusedSimpArgs false
set_option linter.unusedVariables false
set_option linter.unusedSectionVars false
section
namespace Go.Abs
set_option maxRecDepth 100000
def z5ad:z1f:=⟨fun ds=>∃d:List UInt8,d.length=16∧ds=[.agg (bys d)],fun ds=> .agg (bys (z0f 1 [gBs (gCs (nth ds 0))]))⟩
def z17c:z1f:=⟨fun ds=>∃a b:List UInt8,a.length=16∧b.length=16∧ds=[.agg (bys a),.agg (bys b)],fun ds=> .agg (bys (z0f 2 [gBs (gCs (nth ds 0)),gBs (gCs (nth ds 1))]))⟩
theorem z7Dc {d:List UInt8} (h:d.length=16):z5ad.pre [.agg (bys d)]=True:=eq_true ⟨d,h,rfl⟩
theorem z1ac {a b:List UInt8} (ha:a.length=16) (hb:b.length=16):z17c.pre [.agg (bys a),.agg (bys b)]=True:=eq_true ⟨a,b,ha,hb,rfl⟩
@[simp] theorem z4Sc (d:List UInt8):z5ad.post [.agg (bys d)]= .agg (bys (z0f 1 [d])):=by simp[z5ad]
@[simp] theorem z52c (a b:List UInt8):z17c.post [.agg (bys a),.agg (bys b)]= .agg (bys (z0f 2 [a,b])):=by simp[z17c,nth]
theorem z8Qd {t:Int} {nl:Option Bool} {d:List UInt8} (h:d.length=16):z8Rb.pre [i64 t,.sl .plain nl 1 [st d]]=True:=eq_true ⟨t,nl,[d],by simp[z9rb,h],rfl⟩
theorem z5qd {t:Int} {nl:Option Bool} {a b:List UInt8} (h:a.length=16) (h':b.length=16):z8Rb.pre [i64 t,.sl .plain nl 2 [st a,st b]]=True:=eq_true ⟨t,nl,[a,b],by simp[z9rb,h,h'],rfl⟩
theorem z50d (t:Int) (m:z5r) (nl:Option Bool) (d:List UInt8):z8Rb.post [i64 t,.sl m nl 1 [st d]]= .agg (bys (z0f t [d])):=by
 show z0a.agg (bys (z0f t (gSs (sts [d]))))=_
 simp
theorem z3qd (t:Int) (m:z5r) (nl:Option Bool) (a b:List UInt8):z8Rb.post [i64 t,.sl m nl 2 [st a,st b]]= .agg (bys (z0f t [a,b])):=by
 show z0a.agg (bys (z0f t (gSs (sts [a,b]))))=_
 simp
theorem z09d (E:Env) (h20:E.G 20=z8Rb) (h23:E.G 23=z7fb):∀ds,z5ad.pre ds→ds.length=z5xa.n∧awp E z5xa.body (z6va z5xa.res (z5ad.post ds)) (z4H z5xa.wr ds):=by
 rintro _ ⟨d,hd,rfl⟩
 rw[z4Sc]
 have hl:=z0e 1 [d]
 simp(maxSteps:=1000000) (disch:=first|omega|simp;done|simp;omega) [z7G,z8pa,z7pa,z5xa,h20,h23,z0rb,z8Qd,z50d,hd,z7ta,z9pa,hl]
theorem z7Sd (E:Env) (h20:E.G 20=z8Rb) (h23:E.G 23=z7fb):∀ds,z17c.pre ds→ds.length=z1xa.n∧awp E z1xa.body (z6va z1xa.res (z17c.post ds)) (z4H z1xa.wr ds):=by
 rintro _ ⟨a,b,ha,hb,rfl⟩
 rw[z52c]
 have hl:=z0e 2 [a,b]
 simp(maxSteps:=1000000) (disch:=first|omega|simp;done|simp;omega) [z7G,z8pa,z7pa,z1xa,h20,h23,z0rb,z5qd,z3qd,ha,hb,z7ta,z9pa,hl]
/-! ### Splitting -/
theorem z29c {n i:Nat} (h:2≤n) (hi:2^i<n) (hc:¬(2^i<n-2^i)):2^i=spl n:=by
 have h1:=z1H h
 have h2:=z5pb h
 unfold spl at*
 rw[z5Bc hi (by omega) h1 h2]
set_option maxHeartbeats 4000000 in
theorem z9Jd (E:Env):∀ds,z4Ac.pre ds→ds.length=z3za.n∧awp E z3za.body (z6va z3za.res (z4Ac.post ds)) (z4H z3za.wr ds):=by
 rintro _ ⟨n,h2,hn,rfl⟩
 rw[z2Yb]
 simp(maxSteps:=1000000) (disch:=first|omega|simp;done|simp;omega) [z7G,z8pa,z7pa,z3za]
 refine z1g fun Q0 hQ0=> ?_
 refine z2v (fun i:Nat=>⟨[(0,i64 n)],[(3,i64 (2^i:Nat))],[]⟩) (fun i=>n-2^i) (fun i=>2^i<n) 0 rfl (by omega) fun i hi=> ?_
 refine z1g fun Q1 hQ1=> ?_
 by_cases h:2^i<n-2^i
 ·have hp:2^(i+1)=2*2^i:=by rw[Nat.pow_succ];omega
  have h0:=Nat.two_pow_pos i
  have e:(2:Int)*((2^i:Nat):Int)=((2^(i+1):Nat):Int):=by rw[hp];omega
  have hlt:((2^i:Nat):Int)<(n:Int)-((2^i:Nat):Int):=by omega
  generalize 2^i=a at*
  simp(maxSteps:=1000000) (disch:=first|omega|simp;done|simp;omega) [z7G,z8pa,z7pa,z8Ia,z7Wa,kT,kF,dT,dF,hlt,hQ1]
  refine⟨i+1,by omega,by omega,?_⟩
  rw[e];simp
 ·have e:=z29c h2 hi h
  have hlt:¬((2^i:Nat):Int)<(n:Int)-((2^i:Nat):Int):=by omega
  rw[e] at hlt hi
  rw[e]
  simp(maxSteps:=1000000) (disch:=first|omega|simp;done|simp;omega) [z7G,z8pa,z7pa,z8Ia,z6Wa,kT,kF,dT,dF,hQ1,hQ0,hlt]
set_option maxHeartbeats 4000000 in
theorem z3cd (E:Env) (k:Nat) (h20:E.G 20=z8Rb) (h201:E.G 201=z5ad) (h195:E.G 195=z4Ac) (h202:E.G 202=z17c) (h197:E.G 197=z6Bb z2Ua z1ib k):∀ds,(z6Bb z2Ua z1ib (k+1)).pre ds→ds.length=z7sa.n∧awp E z7sa.body (z6va z7sa.res (z2Ua.post ds)) (z4H z7sa.wr ds):=by
 rintro _ ⟨⟨nl,l,h,hl,rfl⟩,hk⟩
 rw[z5Aa,z6Oa h rfl rfl]
 have hk:l.length<k+1:=hk
 by_cases h0:l.length=0
 ·have e:l=[]:=List.length_eq_zero_iff.1 h0
  subst e
  have hr:z9ia []=z0f 1 []:=z9Ab (by decide)
  have hp:z8Rb.pre [i64 1,.sl .plain (some true) 0 []]=True:=z4vc (l:=[]) rfl (by simp[z9rb])
  have hq:z8Rb.post [i64 1,.sl .plain (some true) 0 []]= .agg (bys (z0f 1 [])):=z1C 1 (some true) 0 []
  have hl:=z0e 1 []
  simp(maxSteps:=1000000) (disch:=first|omega|simp;done|simp;omega) [z7G,z8pa,z7pa,z7sa,h20,hp,hq,kT,kF,dT,dF,hr,z9ua,hl,z7ta]
 by_cases h1:l.length=1
 ·obtain⟨d,rfl⟩:=List.length_eq_one_iff.1 h1
  have hd:d.length=16:=(z1u.1 h).1
  have hr:z9ia [d]=z0f 1 [d]:=z9Ab (by simp)
  have hl:=z0e 1 [d]
  simp(maxSteps:=1000000) (disch:=first|omega|simp;done|simp;omega) [z7G,z8pa,z7pa,z7sa,z5La,h201,z7Dc,kT,kF,dT,dF,hr,z9ua,hd,z7ta,hl]
 have h2:2≤l.length:=by omega
 have b0:((l.length:Int)==0)=false:=beq_false_of_ne (by omega)
 have b1:((l.length:Int)==1)=false:=beq_false_of_ne (by omega)
 have hd:=z2ua h
 have hs:=z1H h2
 have hs1:=z5v l.length
 have hr:=z9ac h2
 generalize hK:spl l.length=K at*
 have g1:z9n (l.take K):=z4v h K
 have g2:z9n (l.drop K):=z44a h K
 have htk:(dgs (l.drop K)).take ((l.length-K)*16)=dgs (l.drop K):=List.take_of_length_le (by rw[z2ua g2,List.length_drop];exact Nat.le_refl _)
 have lk1:(l.take K).length=K:=by rw[List.length_take];omega
 have lk2:(l.drop K).length=l.length-K:=List.length_drop
 have hp1:(z6Bb z2Ua z1ib k).pre [.sl .plain nl K (bys (dgs (l.take K)))]=True:=eq_true ⟨of_eq_true (z2db g1 (by omega) lk1.symm rfl),by show K<k;omega⟩
 have hq1:(z6Bb z2Ua z1ib k).post [.sl .plain nl K (bys (dgs (l.take K)))]= .agg (bys (z9ia (l.take K))):=z6Oa g1 lk1.symm rfl
 have hp2:(z6Bb z2Ua z1ib k).pre [.sl .plain nl (l.length-K) (bys (dgs (l.drop K)))]=True:=eq_true ⟨of_eq_true (z2db g2 (by omega) lk2.symm rfl),by show l.length-K<k;omega⟩
 have hq2:(z6Bb z2Ua z1ib k).post [.sl .plain nl (l.length-K) (bys (dgs (l.drop K)))]= .agg (bys (z9ia (l.drop K))):=z6Oa g2 lk2.symm rfl
 have r1:=z0Xa (l.take K)
 have r2:=z0Xa (l.drop K)
 have hsl:=z0e 2 [z9ia (l.take K),z9ia (l.drop K)]
 rw[hr]
 simp(maxSteps:=1000000) (disch:=first|omega|simp;done|simp;omega) [z7G,z8pa,z7pa,z7sa,z5La,z8Ya,b0,b1,h195,z8ac,hK,hd,z63a h,z7Ab h,htk,h197,hp1,hq1,hp2,hq2,h202,z1ac r1 r2,kT,kF,dT,dF,z9ua,z7ta hsl,hsl]
 try exact Nat.le_of_lt hs
/-! ### The peaks' form -/
def z3od:z1f:=⟨fun ds=>∃n:Int,0≤n∧n≤4294967296∧ds=[i64 n],fun ds=>i64 (oN (asI (nth ds 0)).toNat)⟩
theorem z9jd {n:Int} (h:0≤n) (h':n≤4294967296):z3od.pre [i64 n]=True:=eq_true ⟨n,h,h',rfl⟩
@[simp] theorem z3Xc (n:Int):z3od.post [i64 n]=i64 (oN n.toNat):=by simp[z3od]
def hlf:Nat→Nat→Nat|n,0=>n|n,i+1=>hlf n i/2
def cnt:Nat→Nat→Nat|_,0=>0|n,i+1=>cnt n i+hlf n i% 2
theorem z2ec (n:Nat):∀i,cnt n i+oN (hlf n i)=oN n
 |0=>by simp[cnt,hlf]
 |i+1=>by
  have:=z2ec n i
  rw[z7u (hlf n i)] at this
  simp only[cnt,hlf];omega
theorem z70c (n:Nat):∀i,hlf n i≤n
 |0=>Nat.le_refl _
 |i+1=>by have:=z70c n i;simp only[hlf];omega
theorem z6ed (E:Env):∀ds,z3od.pre ds→ds.length=z3xa.n∧awp E z3xa.body (z6va z3xa.res (z3od.post ds)) (z4H z3xa.wr ds):=by
 rintro _ ⟨n,h0,h1,rfl⟩
 rw[z3Xc]
 obtain⟨m,rfl⟩:=Int.eq_ofNat_of_zero_le h0
 rw[Int.toNat_natCast]
 have hm:m≤4294967296:=by omega
 simp(maxSteps:=1000000) (disch:=first|omega|simp;done|simp;omega) [z7G,z8pa,z7pa,z3xa]
 refine z1g fun Q0 hQ0=> ?_
 refine z2v (fun i:Nat=>⟨[],[(0,i64 (hlf m i)),(3,i64 (cnt m i))],[]⟩) (fun i=>hlf m i) (fun _=>True) 0 rfl trivial fun i hi=> ?_
 refine z1g fun Q1 hQ1=> ?_
 have hle:=z70c m i
 have hc:=z2ec m i
 have hc1:=z2ec m (i+1)
 have ho:=z3Sd 33 m (by omega)
 by_cases h:0<hlf m i
 ·have hlt:(0:Int)<(hlf m i:Int):=by omega
  have et:((hlf m i:Nat):Int).tmod 2=((hlf m i% 2:Nat):Int):=rfl
  simp(maxSteps:=1000000) (disch:=first|omega|simp;done|simp;omega) [z7G,z8pa,z7pa,z6Ka,z10a,kT,kF,dT,dF,hlt,hQ1]
  refine⟨i+1,by simp only[hlf];omega,by simp only[hlf];omega,?_⟩
  simp only[et]
  first|(simp only[cnt];omega)|(rw[z7G (by omega) (by omega)];simp only[cnt];omega)
 ·have hz:hlf m i=0:=by omega
  rw[hz,z7K] at hc
  simp(maxSteps:=1000000) (disch:=first|omega|simp;done|simp;omega) [z7G,z8pa,z7pa,z6Ka,z1Za,kT,kF,dT,dF,hQ1,hQ0,hz]
  omega
set_option maxHeartbeats 4000000 in
theorem z6ud (E:Env) (h214:E.G 214=z3od):∀ds,z37b.pre ds→ds.length=z2ra.n∧awp E z2ra.body (z6va z2ra.res (z37b.post ds)) (z4H z2ra.wr ds):=by
 rintro _ ⟨n,nl,l,⟨hn1,hn2⟩,hl,hk,rfl⟩
 rw[show z37b.post [pkA n nl l]=bo (okP n l.length) from z9eb hl rfl rfl]
 unfold pkA z5Aa
 by_cases h0:0≤n
 ·by_cases h1:n≤4294967296
  ·simp(maxSteps:=1000000) (disch:=first|omega|simp;done|simp;omega) [z7G,z8pa,z7pa,z2ra,h214,z9jd h0 h1,dT,dF,h0,h1]
   simp only[okP,dT h0,dT h1,Bool.true_and]
   by_cases e:l.length=oN n.toNat
   ·rw[e];simp
   ·rw[dF e];simp;omega
  ·simp(maxSteps:=1000000) (disch:=first|omega|simp;done|simp;omega) [z7G,z8pa,z7pa,z2ra,h214,dT,dF,h0,h1]
   simp only[okP,dF h1];simp
 ·simp(maxSteps:=1000000) (disch:=first|omega|simp;done|simp;omega) [z7G,z8pa,z7pa,z2ra,h214,dT,dF,h0]
  simp only[okP,dF h0];simp
/-! ### The same -/
def z0hd:z1f:=⟨fun ds=>∃(nl nl':Option Bool) (a b:List (List UInt8)),z9n a∧z9n b∧a.length≤1000000∧b.length≤1000000∧ds=[z5Aa nl a,z5Aa nl' b],fun ds=>bo (decide (gDs (nth ds 0)=gDs (nth ds 1)))⟩
theorem z69c {nl nl':Option Bool} {a b:List (List UInt8)} {x y:List UInt8} {n m:Nat} (ha:z9n a) (hb:z9n b) (h1:a.length≤1000000) (h2:b.length≤1000000) (hn:n=a.length) (hm:m=b.length) (hx:x=dgs a) (hy:y=dgs b):z0hd.pre [.sl .plain nl n (bys x),.sl .plain nl' m (bys y)]=True:=eq_true ⟨nl,nl',a,b,ha,hb,h1,h2,by rw[hn,hm,hx,hy];rfl⟩
theorem z2ic {M M':z5r} {nl nl':Option Bool} {a b:List (List UInt8)} {x y:List UInt8} {n m:Nat} (ha:z9n a) (hb:z9n b) (hn:n=a.length) (hm:m=b.length) (hx:x=dgs a) (hy:y=dgs b):z0hd.post [.sl M nl n (bys x),.sl M' nl' m (bys y)]=bo (decide (a=b)):=by
 simp only[z0hd]
 rw[hn,hm,hx,hy,show nth [z0a.sl M nl a.length (bys (dgs a)),z0a.sl M' nl' b.length (bys (dgs b))] 0=z0a.sl M nl a.length (bys (dgs a)) from rfl,show nth [z0a.sl M nl a.length (bys (dgs a)),z0a.sl M' nl' b.length (bys (dgs b))] 1=z0a.sl M' nl' b.length (bys (dgs b)) from rfl,z1Ea ha,z1Ea hb]
theorem z8Sc {a b:List (List UInt8)} {i:Nat} (ha:i<a.length) (hb:i<b.length) (h:a.take i=b.take i) (he:z5la a i=z5la b i):a.take (i+1)=b.take (i+1):=by
 rw[←List.take_append_getElem (i:=i) (h:=ha),←List.take_append_getElem (i:=i) (h:=hb),h]
 simp only[z5la,List.getD,List.getElem?_eq_getElem ha,List.getElem?_eq_getElem hb,Option.getD_some] at he
 rw[he]
set_option maxHeartbeats 4000000 in
theorem z6zd (E:Env):∀ds,z0hd.pre ds→ds.length=z0va.n∧awp E z0va.body (z6va z0va.res (z0hd.post ds)) (z4H z0va.wr ds):=by
 rintro _ ⟨nl,nl',a,b,ha,hb,h1,h2,rfl⟩
 rw[show z0hd.post [z5Aa nl a,z5Aa nl' b]=bo (decide (a=b)) from z2ic ha hb rfl rfl rfl rfl]
 unfold z5Aa
 have da:=z2ua ha
 have db:=z2ua hb
 by_cases hlen:a.length=b.length
 ·have bn:((a.length:Int) !=(b.length:Int))=false:=by rw[hlen];simp
  simp(maxSteps:=1000000) (disch:=first|omega|simp;done|simp;omega) [z7G,z8pa,z7pa,z0va,z7Ya,bn,kT,kF]
  refine z1g fun Q0 hQ0=> ?_
  refine z2v (fun i:Nat=>⟨[(0,.sl .plain nl a.length (bys (dgs a))),(1,.sl .plain nl' b.length (bys (dgs b)))],[(5,i64 i)],[]⟩) (fun i=>a.length-i) (fun i=>i≤a.length∧a.take i=b.take i) 0 rfl (by simp) fun i hi=> ?_
  refine z1g fun Q1 hQ1=> ?_
  obtain⟨hi,he⟩:=hi
  by_cases h:i<a.length
  ·have hlt:(i:Int)<(a.length:Int):=by omega
   have ta:=z8cb ha h
   have tb:=z8cb hb (show i<b.length by omega)
   have la:=z4Ga ha h
   have lb:=z4Ga hb (show i<b.length by omega)
   have eqb:=z23a la lb
   by_cases hab:z5la a i=z5la b i
   ·rw[hab] at eqb
    have hn:=z8Sc h (by omega) he hab
    simp(maxSteps:=1000000) (disch:=first|omega|simp;done|simp;omega) [z7G,z8pa,z7pa,z8Da,z4La,kT,kF,dT,dF,hlt,ta,tb,eqb,hab,da,db,hQ1]
    exact⟨by omega,by omega,by omega,lb,i+1,by omega,⟨by omega,hn⟩,by omega⟩
   ·have hne:¬a=b:=fun e=>hab (by rw[e])
    simp(maxSteps:=1000000) (disch:=first|omega|simp;done|simp;omega) [z7G,z8pa,z7pa,z8Da,z4La,kT,kF,dT,dF,hlt,ta,tb,eqb,hab,da,db,hQ1,hQ0,hne]
    exact⟨by omega,by omega,by omega,la,lb⟩
  ·have hlt:¬(i:Int)<(a.length:Int):=by omega
   have hab:a=b:=by
    rw[List.take_of_length_le (by omega),List.take_of_length_le (by omega)] at he
    exact he
   subst hab
   simp(maxSteps:=1000000) (disch:=first|omega|simp;done|simp;omega) [z7G,z8pa,z7pa,z8Da,z9Ya,kT,kF,dT,dF,hlt,hQ1,hQ0]
 ·have bn:((a.length:Int) !=(b.length:Int))=true:=by simpa using fun h=>hlen (by omega)
  have hne:¬a=b:=fun e=>hlen (by rw[e])
  simp(maxSteps:=1000000) (disch:=first|omega|simp;done|simp;omega) [z7G,z8pa,z7pa,z0va,bn,kT,kF,hne]
def z56c:z1f:=⟨fun ds=>∃(n m:Int) (nl nl':Option Bool) (a b:List (List UInt8)),z9n a∧z9n b∧a.length≤1000000∧b.length≤1000000∧ds=[pkA n nl a,pkA m nl' b],fun ds=>bo (decide (gPl (nth ds 0)=gPl (nth ds 1))&&decide (gPn (nth ds 0)=gPn (nth ds 1)))⟩
theorem z7Gc {n m:Int} {nl nl':Option Bool} {a b:List (List UInt8)} {x y:List UInt8} {i j:Nat} (ha:z9n a) (hb:z9n b) (h1:a.length≤1000000) (h2:b.length≤1000000) (hi:i=a.length) (hj:j=b.length) (hx:x=dgs a) (hy:y=dgs b):z56c.pre [.agg [i64 n,.sl .plain nl i (bys x)],.agg [i64 m,.sl .plain nl' j (bys y)]]=True:=eq_true ⟨n,m,nl,nl',a,b,ha,hb,h1,h2,by rw[hi,hj,hx,hy];rfl⟩
theorem z7Zb {n m:Int} {M M':z5r} {nl nl':Option Bool} {a b:List (List UInt8)} {x y:List UInt8} {i j:Nat} (ha:z9n a) (hb:z9n b) (hi:i=a.length) (hj:j=b.length) (hx:x=dgs a) (hy:y=dgs b):z56c.post [.agg [i64 n,.sl M nl i (bys x)],.agg [i64 m,.sl M' nl' j (bys y)]]=bo (decide (a=b)&&decide (n=m)):=by
 simp only[z56c]
 rw[hi,hj,hx,hy,show nth [z0a.agg [i64 n,.sl M nl a.length (bys (dgs a))],z0a.agg [i64 m,.sl M' nl' b.length (bys (dgs b))]] 0=z0a.agg [i64 n,.sl M nl a.length (bys (dgs a))] from rfl,show nth [z0a.agg [i64 n,.sl M nl a.length (bys (dgs a))],z0a.agg [i64 m,.sl M' nl' b.length (bys (dgs b))]] 1=z0a.agg [i64 m,.sl M' nl' b.length (bys (dgs b))] from rfl,z3Ob,z3Ob,z6Lb,z6Lb,z1Ea ha,z1Ea hb]
theorem z0Fd (E:Env) (h200:E.G 200=z0hd):∀ds,z56c.pre ds→ds.length=z2sa.n∧awp E z2sa.body (z6va z2sa.res (z56c.post ds)) (z4H z2sa.wr ds):=by
 rintro _ ⟨n,m,nl,nl',a,b,ha,hb,h1,h2,rfl⟩
 rw[show z56c.post [pkA n nl a,pkA m nl' b]=bo (decide (a=b)&&decide (n=m)) from z7Zb ha hb rfl rfl rfl rfl]
 unfold pkA z5Aa
 have pre:=z69c (nl:=nl) (nl':=nl') ha hb h1 h2 rfl rfl rfl rfl
 have post:=z2ic (M:= .plain) (M':= .plain) (nl:=nl) (nl':=nl') ha hb rfl rfl rfl rfl
 by_cases e:a=b
 ·have e':decide (a=b)=true:=decide_eq_true e
  rw[e'] at post
  obtain rfl:=e
  simp(maxSteps:=1000000) (disch:=first|omega|simp;done|simp;omega) [z7G,z8pa,z7pa,z2sa,h200,pre,post,kT,kF,dT,dF]
  rfl
 ·have e':decide (a=b)=false:=decide_eq_false e
  rw[e'] at post
  simp(maxSteps:=1000000) (disch:=first|omega|simp;done|simp;omega) [z7G,z8pa,z7pa,z2sa,h200,pre,post,e,kT,kF,dT,dF]
/-! ### The top -/
set_option maxHeartbeats 4000000 in
theorem z2Fd (E:Env) (h20:E.G 20=z8Rb) (h202:E.G 202=z17c) (h211:E.G 211=z37b):∀ds,z3kc.pre ds→ds.length=z6ua.n∧awp E z6ua.body (z6va z6ua.res (z3kc.post ds)) (z4H z6ua.wr ds):=by
 rintro _ ⟨n,nl,l,hn,hl,hlen,rfl⟩
 rw[show z3kc.post [pkA n nl l]= .tup [.agg (bys (z06b n l).1),i64 (z06b n l).2] from z2Ib hl rfl rfl,z06b]
 unfold pkA z5Aa
 have v1:=z3Ib (nl:=nl) hn hl hlen rfl rfl
 have v2:=z9eb (n:=n) (m:= .plain) (nl:=nl) hl rfl rfl
 by_cases ho:okP n l.length=true
 ·rw[if_pos ho]
  rw[ho] at v2
  have hz:(n=0)↔(l.length=0):=by
   simp only[okP,Bool.and_eq_true,decide_eq_true_eq] at ho
   obtain⟨⟨g0,_⟩,g2⟩:=ho
   constructor
   ·rintro rfl;rw[g2];exact z7K
   ·intro h
    have hn0:¬0<n.toNat:=fun h'=>by have:=z4Sb h';omega
    omega
  by_cases h0:n=0
  ·rw[if_pos h0]
   have hll:l=[]:=List.length_eq_zero_iff.1 (hz.1 h0)
   subst h0 hll
   have hr:z9ia []=z0f 1 []:=z9Ab (by decide)
   have hp:z8Rb.pre [i64 1,.sl .plain (some true) 0 []]=True:=z4vc (l:=[]) rfl (by simp[z9rb])
   have hq:z8Rb.post [i64 1,.sl .plain (some true) 0 []]= .agg (bys (z0f 1 [])):=z1C 1 (some true) 0 []
   have hll:=z0e 1 []
   replace v1:z37b.pre [.agg [i64 0,.sl .plain nl 0 []]]=True:=v1
   replace v2:z37b.post [.agg [i64 0,.sl .plain nl 0 []]]=bo true:=v2
   simp(maxSteps:=1000000) (disch:=first|omega|simp;done|simp;omega) [z7G,z8pa,z7pa,z6ua,h211,v1,v2,kT,kF,dT,dF,z7Ma,h20,hp,hq,hll,z9pa,z7ta hll,hr]
  ·rw[if_neg h0]
   have hpos:0<l.length:=by omega
   have hd:=z2ua hl
   have hat:=z8cb hl (show l.length-1<l.length by omega)
   have hal:=z4Ga hl (show l.length-1<l.length by omega)
   have e1:((l.length:Int)-1).toNat=l.length-1:=by omega
   have b0:((l.length:Int)==0)=false:=beq_false_of_ne (by omega)
   simp(maxSteps:=1000000) (disch:=first|omega|simp;done|simp;omega) [z7G,z8pa,z7pa,z6ua,h211,v1,v2,kT,kF,dT,dF,h0,z7Ma,z36a,e1,hd,hat,hal,z9pa,b0]
   refine⟨⟨by omega,by omega⟩,by omega,?_⟩
   refine z1g fun Q0 hQ0=> ?_
   refine z2v (fun i:Nat=>⟨[(0,.agg [i64 n,.sl .plain nl l.length (bys (dgs l))])],[(1,.bp 1 0),(2,.bp 2 0),(4,.bp 4 0),(5,i64 ((l.length:Int)-2-i))],[(1,some [i64 n,.sl .plain nl l.length (bys (dgs l))]),(2,some (bys (z5j 16))),(4,some (bys (z7Sb l i)))]⟩) (fun i=>l.length-i) (fun i=>i≤l.length-1) 0 (by simp[z7Sb]) (Nat.zero_le _) fun i hi=> ?_
   refine z1g fun Q1 hQ1=> ?_
   have tl:=z9La hl hpos i
   have tk:=z7ta tl
   by_cases h:i<l.length-1
   ·have hlt:(0:Int)≤(l.length:Int)-2-i:=by omega
    have e2:((l.length:Int)-2-i).toNat=l.length-2-i:=by omega
    have hat2:=z8cb hl (show l.length-2-i<l.length by omega)
    have hal2:=z4Ga hl (show l.length-2-i<l.length by omega)
    have es:z0f 2 [z5la l (l.length-2-i),z7Sb l i]=z7Sb l (i+1):=rfl
    have tl1:=z9La hl hpos (i+1)
    simp(maxSteps:=1000000) (disch:=first|omega|simp;done|simp;omega) [z7G,z8pa,z7pa,z4Ma,z24a,kT,kF,dT,dF,hlt,e2,hd,hat2,h202,z1ac hal2 tl,tl,tk,es,tl1,z9pa,hQ1]
    exact⟨⟨by omega,by omega⟩,by omega,i+1,by omega,by omega,by omega,rfl⟩
   ·have hlt:¬(0:Int)≤(l.length:Int)-2-i:=by omega
    have hii:i=l.length-1:=by omega
    subst hii
    simp(maxSteps:=1000000) (disch:=first|omega|simp;done|simp;omega) [z7G,z8pa,z7pa,z4Ma,z93a,kT,kF,dT,dF,hlt,tl,tk,z9pa,hQ1,hQ0]
    skip
 ·rw[if_neg ho]
  have ho':okP n l.length=false:=by simpa using ho
  rw[ho'] at v2
  simp(maxSteps:=1000000) (disch:=first|omega|simp;done|simp;omega) [z7G,z8pa,z7pa,z6ua,h211,v1,v2,kT,kF,z9pa]
end Go.Abs
end

section
namespace Go.Abs
set_option maxRecDepth 100000
set_option maxHeartbeats 8000000
def z3md:z1f:=⟨fun ds=>∃(nl:Option Bool) (es:List z2n),z2vb es∧es.length≤1000∧ds=[z5sa nl es],fun ds=>z7rb none (z3h (z7vb (gNn (nth ds 0)) (gCs (nth ds 0))))⟩
theorem z9Pc {nl:Option Bool} {es:List z2n} (h:z2vb es) (h1:es.length≤1000):z3md.pre [z5sa nl es]=True:=eq_true ⟨nl,es,h,h1,rfl⟩
theorem z8dc {nl:Option Bool} {es:List z2n} (h:z2vb es):z3md.post [z5sa nl es]=z7rb none (z3h es):=by
 show z7rb none (z3h (z7vb es.length (z6ra es)))=_
 rw[z5ib h]
theorem z1Ic {es:List z2n} {i:Nat} (h:i<es.length):z3h (es.take (i+1))=z3h (es.take i)++[z0f 8 [z9Db es[i]]]:=by
 rw[z3h,z3h,List.take_succ_eq_append_getElem h,List.map_append];rfl
theorem z5Sd (E:Env) (h334:E.G 334=z9ub):∀ds,z3md.pre ds→ds.length=z1sa.n∧awp E z1sa.body (z6va z1sa.res (z3md.post ds)) (z4H z1sa.wr ds):=by
 rintro _ ⟨nl,es,h,h1,rfl⟩
 rw[z8dc h]
 unfold z5sa z7rb
 have hlen:=z4ta h
 generalize hQf:z6va z1sa.res (.sl (.own 16) none (z3h es).length (bys (dgs (z3h es))))=Qf
 simp(maxSteps:=1000000) (disch:=first|omega|simp;done|simp;omega) [z7G,z8pa,z7pa,z1sa]
 refine z1g fun Q0 hQ0=> ?_
 refine z2v (fun i:Nat=>⟨[(0,.sl .plain nl es.length (z6ra es))],[(3,.sl (.own 16) none (z3h (es.take i)).length (bys (dgs (z3h (es.take i))))),(4,i64 i)],[]⟩) (fun i=>es.length-i) (fun i=>i≤es.length) 0 (by simp[z3h]) (by simp) fun i hi=> ?_
 refine z1g fun Q1 hQ1=> ?_
 by_cases c:i<es.length
 ·have hat:=z8Ab h c
  have hs:=h _ (List.getElem_mem c)
  have p:=z6zc (nc:=none) (nm:=none) (ng:=none) hs
  have q:=z1wb (nc:=none) (nm:=none) (ng:=none) hs
  have hxl:=z5vb hs
  have l1:30≤es.length*30-i*30:=by omega
  have l2:i*30≤es.length*30:=by omega
  have hT:=z1Ic c
  have hl:(z3h (es.take i)).length=i:=by rw[z9m,List.length_take];omega
  have dl:=z0e 8 [z9Db es[i]]
  generalize z0f 8 [z9Db es[i]]=D at*
  generalize es[i]=x at*
  generalize z3h (es.take i)=A at*
  simp(maxSteps:=1000000) (disch:=first|omega|simp;done|simp;omega) [z7G,z8pa,z7pa,z1Fa,z0Qa,kT,kF,dT,dF,c,hlen,hat,hxl,h334,p,q,l1,l2,dl,z9pa,hl,hQ1]
  exact⟨⟨by omega,by omega⟩,i+1,by omega,by omega,⟨by rw[hT];simp[hl],by rw[hT];simp⟩,by omega⟩
 ·obtain rfl:i=es.length:=by omega
  simp(maxSteps:=1000000) (disch:=first|omega|simp;done|simp;omega) [z7G,z8pa,z7pa,z1Fa,z9Pa,kT,kF,dT,dF,hQ1,hQ0,List.take_length,←hQf,z1sa]
  skip
theorem z98c (E:Env) (h20:E.G 20=z8Rb) (h23:E.G 23=z7fb):∀ds,z8qc.pre ds→ds.length=z5Ba.n∧awp E z5Ba.body (z6va z5Ba.res (z8qc.post ds)) (z4H z5Ba.wr ds):=by
 rintro _ ⟨nl,l,hl,hlen,hpos,rfl⟩
 rw[z8Ub hl]
 unfold z5Aa
 have hd:=z2ua hl
 have hat:=z8cb hl (show l.length-1<l.length by omega)
 have hal:=z4Ga hl (show l.length-1<l.length by omega)
 have e1:((l.length:Int)-1).toNat=l.length-1:=by omega
 simp(maxSteps:=1000000) (disch:=first|omega|simp;done|simp;omega) [z7G,z8pa,z7pa,z5Ba,e1,hd,hat,hal,z9pa]
 refine⟨⟨by omega,by omega⟩,by omega,?_⟩
 refine z1g fun Q0 hQ0=> ?_
 refine z2v (fun i:Nat=>⟨[(0,.sl .plain nl l.length (bys (dgs l)))],[(2,.bp 2 0),(3,.bp 3 0),(4,i64 ((l.length:Int)-2-i))],[(2,some (bys (z5j 16))),(3,some (bys (z7Sb l i)))]⟩) (fun i=>l.length-i) (fun i=>i≤l.length-1) 0 (by simp[z7Sb]) (Nat.zero_le _) fun i hi=> ?_
 refine z1g fun Q1 hQ1=> ?_
 have tl:=z9La hl hpos i
 have tk:=z7ta tl
 by_cases h:i<l.length-1
 ·have hlt:(0:Int)≤(l.length:Int)-2-i:=by omega
  have e2:((l.length:Int)-2-i).toNat=l.length-2-i:=by omega
  have hat2:=z8cb hl (show l.length-2-i<l.length by omega)
  have hal2:=z4Ga hl (show l.length-2-i<l.length by omega)
  have es:z0f 2 [z5la l (l.length-2-i),z7Sb l i]=z7Sb l (i+1):=rfl
  have tl1:=z9La hl hpos (i+1)
  have o1:=z5qd (t:=2) (nl:=some false) hal2 tl
  have o2:=z3qd 2 .plain (some false) (z5la l (l.length-2-i)) (z7Sb l i)
  rw[es] at o2
  simp(maxSteps:=1000000) (disch:=first|omega|simp;done|simp;omega) [z7G,z8pa,z7pa,z6Na,z47a,kT,kF,dT,dF,hlt,e2,hd,hat2,h23,z0rb,hal2,h20,o1,o2,tl,tk,es,tl1,z9pa,hQ1]
  exact⟨⟨by omega,by omega⟩,by omega,i+1,by omega,by omega,by omega,rfl⟩
 ·have hlt:¬(0:Int)≤(l.length:Int)-2-i:=by omega
  have hii:i=l.length-1:=by omega
  subst hii
  simp(maxSteps:=1000000) (disch:=first|omega|simp;done|simp;omega) [z7G,z8pa,z7pa,z6Na,z45a,kT,kF,dT,dF,hlt,tl,tk,z9pa,hQ1,hQ0,z6qc]
  skip
theorem z1id (E:Env) (N:Nat) (h388:E.G 388=z8qc) (h197:E.G 197=z2Ua) (h195:E.G 195=z4Ac) (h383:E.G 383=z6Bb z44b z0Ac N):∀ds,(z6Bb z44b z0Ac (N+1)).pre ds→ds.length=z7ra.n∧awp E z7ra.body (z6va z7ra.res (z44b.post ds)) (z4H z7ra.wr ds):=by
 rintro _ ⟨⟨n,m,w,nq,nl,q,l,h,rfl⟩,hN⟩
 rw[z0kb h]
 have hm1:=h.m1
 have hmn:=h.mn
 have hnn:=h.nn
 have hqp:0<q.length:=by rw[h.qo];exact z4Sb hm1
 have hdq:=z2ua h.q16
 have hdl:=z2ua h.l16
 unfold z5Aa
 by_cases he:m=n
 ·subst he
  cases w with
  |true=>
   have hr:z2Vb m m true q l= .sl (.own 16) none 0 []:=by rw[z2Vb,z73b rfl];simp[z7rb,z0vb,dgs]
   rw[hr]
   simp(maxSteps:=1000000) (disch:=first|omega|simp;done|simp;omega) [z7G,z8pa,z7pa,z7ra,kT,kF]
   skip
  |false=>
   have hr:z2Vb m m false q l= .sl (.own 16) (some false) 1 (bys (z6qc q)):=by rw[z2Vb,z73b rfl];simp[z7rb,z0vb,dgs]
   have f1:z8qc.pre [.sl .plain nq q.length (bys (dgs q))]=True:=z25c h.q16 (by have:=h.qo;have:=z9tb m;omega) hqp
   have f2:z8qc.post [.sl .plain nq q.length (bys (dgs q))]= .agg (bys (z6qc q)):=z8Ub h.q16
   have tl:(z6qc q).length=16:=z9La h.q16 hqp _
   rw[hr]
   simp(maxSteps:=1000000) (disch:=first|omega|simp;done|simp;omega) [z7G,z8pa,z7pa,z7ra,z96a,kT,kF,h388,f1,f2,tl,z9pa]
   skip
 ·have d3:((m:Int)==(n:Int))=false:=beq_false_of_ne (by omega)
  have h2:2≤n:=by omega
  have hs:=z1H h2
  have hps:=z5v n
  have hw:=z5pb h2
  have sp1:=z8ac (n:=n) h2 (by omega)
  have sp2:=z2Yb n
  have hN':n<N+1:=hN
  rw[z2Vb,z7Yb ⟨h2,he⟩]
  have hk0:spl n=2^Nat.log2 (n-1):=rfl
  obtain⟨k,hk⟩:∃k,k=spl n:=⟨_,rfl⟩
  rw[←hk] at sp2 hs hps hw⊢
  generalize hQf:z6va z7ra.res (z7rb (z0vb n m w) (if m≤k then prf k m w q (List.take (k-m) l)++[z9ia (List.drop (k-m) l)] else prf (n-k) (m-k) false q.tail l++[q.headD []]))=Qf
  by_cases hm:m≤k
  ·have i0:(m:Int)≤(k:Int):=by omega
   have hle:(l.take (k-m)).length=k-m:=by rw[List.length_take];omega
   have hld:(l.drop (k-m)).length=n-k:=by rw[List.length_drop];omega
   have ok1:z2cc k m q (l.take (k-m)):=⟨hm1,by omega,by omega,h.q16,z4v h.l16 _,h.qo⟩
   have i1:((k:Int)-(m:Int)).toNat=k-m:=by omega
   have hp0:=z9Ob (w:=w) (nq:=nq) (nl:=nl) ok1
   have hq0:=z0kb (w:=w) (nq:=nq) (nl:=nl) ok1
   simp only[z5Aa,hle] at hp0 hq0
   have hp1:(z6Bb z44b z0Ac N).pre [i64 (k:Int),i64 (m:Int),bo w,.sl .plain nq q.length (bys (dgs q)),.sl .plain nl (k-m) (bys (dgs (l.take (k-m))))]=True:=eq_true ⟨of_eq_true hp0,by show k<N;omega⟩
   have hq1:(z6Bb z44b z0Ac N).post [i64 (k:Int),i64 (m:Int),bo w,.sl .plain nq q.length (bys (dgs q)),.sl .plain nl (k-m) (bys (dgs (l.take (k-m))))]=z2Vb k m w q (l.take (k-m)):=hq0
   have hl2:l.length-(k-m)=n-k:=by omega
   have r1:z2Ua.pre [.sl .plain nl (n-k) (bys (dgs (l.drop (k-m))))]=True:=z2db (z44a h.l16 _) (by omega) hld.symm rfl
   have r2:z2Ua.post [.sl .plain nl (n-k) (bys (dgs (l.drop (k-m))))]= .agg (bys (z9ia (l.drop (k-m)))):=z6Oa (z44a h.l16 _) hld.symm rfl
   have rl:=z0Xa (l.drop (k-m))
   have t1:=z63a h.l16 (k-m)
   have t2:=z7Ab h.l16 (k-m)
   have t3:List.take ((n-k)*16) (bys (dgs (l.drop (k-m))))=bys (dgs (l.drop (k-m))):=List.take_of_length_le (by simp only[bys,List.length_map];rw[z2ua (z44a h.l16 _),hld];exact Nat.le_refl _)
   have hnl:z0vb n m w=none:=by simp[z0vb,he]
   rw[if_pos hm,hnl] at hQf
   have hPl:=z3wb k m w q (l.take (k-m)) hm1 hm
   generalize hP:prf k m w q (l.take (k-m))=P at*
   generalize hR:z9ia (l.drop (k-m))=R at*
   rw[z2Vb,hP] at hq1
   simp(maxSteps:=1000000) (disch:=first|omega|simp;done|simp;omega) [z7G,z8pa,z7pa,z7ra,z8Ma,kT,kF,dT,dF,d3,h195,sp1,sp2,i0,h383,i1,hdl,hp1,hq1,hl2,h197,r1,r2,rl,t1,t2,t3,z9pa,z7rb,←hQf]

   exact⟨by omega,by omega,by omega⟩
  ·have i0:¬((m:Int)≤(k:Int)):=by omega
   have ho':oN m=oN (m-k)+1:=by
    have:=z0Vc (k:=Nat.log2 (n-1)) (m:=m-k) (by rw[←hk0,←hk];omega)
    rw[←hk0,←hk,show k+(m-k)=m by omega] at this
    exact this
   have htl:q.tail.length=q.length-1:=List.length_tail
   have ok2:z2cc (n-k) (m-k) q.tail l:=⟨by omega,by omega,by omega,fun d hd=>h.q16 d (List.mem_of_mem_tail hd),h.l16,by rw[htl,h.qo];omega⟩
   have c1:((n-k:Nat):Int)=(n:Int)-(k:Int):=by omega
   have c2:((m-k:Nat):Int)=(m:Int)-(k:Int):=by omega
   have hp0:=z9Ob (w:=false) (nq:=nq) (nl:=nl) ok2
   have hq0:=z0kb (w:=false) (nq:=nq) (nl:=nl) ok2
   simp only[z5Aa,htl,c1,c2] at hp0 hq0
   have hp1:(z6Bb z44b z0Ac N).pre [i64 ((n:Int)-(k:Int)),i64 ((m:Int)-(k:Int)),bo false,.sl .plain nq (q.length-1) (bys (dgs q.tail)),.sl .plain nl l.length (bys (dgs l))]=True:=eq_true ⟨of_eq_true hp0,by show((n:Int)-(k:Int)).toNat<N;omega⟩
   have hq1:(z6Bb z44b z0Ac N).post [i64 ((n:Int)-(k:Int)),i64 ((m:Int)-(k:Int)),bo false,.sl .plain nq (q.length-1) (bys (dgs q.tail)),.sl .plain nl l.length (bys (dgs l))]=z2Vb (n-k) (m-k) false q.tail l:=hq0
   have hnl:z0vb n m w=none:=by simp[z0vb,he]
   obtain⟨a,q',rfl⟩:∃a q',q=a::q':=by
    cases q with
    |nil=>simp at hqp
    |cons a q'=>exact⟨a,q',rfl⟩
   simp only[List.length_cons,Nat.add_sub_cancel,List.tail_cons] at hp1 hq1
   have hal:=(z1u.1 h.q16).1
   have t1:List.take (q'.length*16) (dgs q')=dgs q':=List.take_of_length_le (by rw[z2ua (z1u.1 h.q16).2];exact Nat.le_refl _)
   have t2:List.take 16 (dgs (a::q'))=a:=by rw[show dgs (a::q')=a++dgs q' by simp[dgs],List.take_left' hal]
   rw[if_neg hm,hnl,List.headD_cons,List.tail_cons] at hQf
   have hPl:=z3wb (n-k) (m-k) false q' l (by omega) (by omega)
   generalize hP:prf (n-k) (m-k) false q' l=P at*
   rw[z2Vb,hP] at hq1
   simp(maxSteps:=1000000) (disch:=first|omega|simp;done|simp;omega) [z7G,z8pa,z7pa,z7ra,z8Ma,z54a,kT,kF,dT,dF,d3,h195,sp1,sp2,i0,h383,hdq,hp1,hq1,t1,t2,hal,z9pa,z7rb,←hQf]

   exact⟨by omega,by omega,by omega⟩
end Go.Abs
end

section
namespace Go.Abs
set_option maxRecDepth 100000
def z66c:z1f:=⟨z7Jc.pre,fun ds=> .tup [pkA (z5Ub (gPn (nth ds 0)) (gPl (nth ds 0)) (gBs (gCs (nth ds 1)))).1.1 none (z5Ub (gPn (nth ds 0)) (gPl (nth ds 0)) (gBs (gCs (nth ds 1)))).1.2,i64 (z5Ub (gPn (nth ds 0)) (gPl (nth ds 0)) (gBs (gCs (nth ds 1)))).2]⟩
theorem z8ld {n:Int} {nl:Option Bool} {l:List (List UInt8)} {b d:List UInt8} {k:Nat} (hn:inI n) (h:z9n l) (hl:l.length≤1000000) (hd:d.length=16) (hk:k=l.length) (hb:b=dgs l):z66c.pre [.agg [i64 n,.sl .plain nl k (bys b)],.agg (bys d)]=True:=z3Bc hn h hl hd hk hb
theorem z5gc {n:Int} {m:z5r} {nl:Option Bool} {l:List (List UInt8)} {b d:List UInt8} {k:Nat} (h:z9n l) (hk:k=l.length) (hb:b=dgs l):z66c.post [.agg [i64 n,.sl m nl k (bys b)],.agg (bys d)]= .tup [pkA (z5Ub n l d).1.1 none (z5Ub n l d).1.2,i64 (z5Ub n l d).2]:=by
 simp only[z66c]
 rw[hk,hb,show nth [z0a.agg [i64 n,.sl m nl l.length (bys (dgs l))],.agg (bys d)] 0=z0a.agg [i64 n,.sl m nl l.length (bys (dgs l))] from rfl,show gBs (gCs (nth [z0a.agg [i64 n,.sl m nl l.length (bys (dgs l))],.agg (bys d)] 1))=d from by simp[nth,gCs],z6Lb,z3Ob,z1Ea h]
theorem z4Vc (n:Nat):∀i,i≤t1N n→t1N (hlf n i)=t1N n-i
 |0,_=>rfl
 |i+1,h=>by
  have ih:=z4Vc n i (by omega)
  have ho:hlf n i% 2=1:=by
   by_cases hc:hlf n i% 2=1
   ·exact hc
   ·rw[z8o (by omega)] at ih;omega
  rw[z0s ho] at ih
  rw[hlf];omega
theorem z0tc (n:Nat):0<t1N n↔n% 2=1:=by
 by_cases h:n% 2=1
 ·rw[z0s h];omega
 ·rw[z8o (by omega)];omega
set_option maxHeartbeats 8000000 in
theorem z1Gd (E:Env) (h201:E.G 201=z5ad) (h202:E.G 202=z17c) (h211:E.G 211=z37b):∀ds,z66c.pre ds→ds.length=z7ua.n∧awp E z7ua.body (z6va z7ua.res (z66c.post ds)) (z4H z7ua.wr ds):=by
 rintro _ ⟨n,nl,l,d,hn,hl,hlen,hd,rfl⟩
 rw[show z66c.post [pkA n nl l,.agg (bys d)]= .tup [pkA (z5Ub n l d).1.1 none (z5Ub n l d).1.2,i64 (z5Ub n l d).2] from z5gc hl rfl rfl,z5Ub]
 unfold pkA z5Aa
 have v1:=z3Ib (nl:=nl) hn hl hlen rfl rfl
 have v2:=z9eb (n:=n) (m:= .plain) (nl:=nl) hl rfl rfl
 have hk:okP n l.length=false∨okP n l.length=true:=by cases okP n l.length<;>simp
 rcases hk with ho|ho
 ·rw[ho] at v2
  have x1:¬(okP n l.length=true∧n≠4294967296):=by simp[ho]
  rw[if_neg x1]
  simp(maxSteps:=1000000) (disch:=first|omega|simp;done|simp;omega) [z7G,z8pa,z7pa,z7ua,h211,v1,v2,kT,kF,hd,z9pa]
 ·rw[ho] at v2
  by_cases h2:n=4294967296
  ·have x1:¬(okP n l.length=true∧n≠4294967296):=by simp[h2]
   rw[if_neg x1]
   subst h2
   simp(maxSteps:=1000000) (disch:=first|omega|simp;done|simp;omega) [z7G,z8pa,z7pa,z7ua,h211,v1,v2,kT,kF,hd,z9pa]
  ·obtain⟨g0,g1,g2⟩:0≤n∧n<4294967296∧l.length=oN n.toNat:=by
    simp only[okP,Bool.and_eq_true,decide_eq_true_eq] at ho
    exact⟨ho.1.1,by omega,ho.2⟩
   have gt:=z3u n.toNat
   have hbF:(n==4294967296)=false:=by simpa using h2
   rw[if_pos ⟨ho,h2⟩]
   obtain⟨m,rfl⟩:=Int.eq_ofNat_of_zero_le g0
   rw[Int.toNat_natCast] at gt g2⊢
   have hlf0:z0f 1 [d]=z6ja l d 0:=rfl
   have fl0:=z2hb l d 0
   have hdl:=z2ua hl
   simp(maxSteps:=1000000) (disch:=first|omega|simp;done|simp;omega) [z7G,z8pa,z7pa,z7ua,h211,v1,v2,kT,kF,hd,z9pa,hbF,dF,h2,z55a,h201,z7Dc,hlf0,fl0,z7ta]
   refine z1g fun Q0 hQ0=> ?_
   generalize ht:t1N m=t at*
   refine z2v (fun i:Nat=>⟨[(0,.agg [i64 m,.sl .plain nl l.length (bys (dgs l))]),(1,.agg (bys d))],[(2,.bp 2 0),(4,.bp 4 0),(6,.bp 6 0),(7,i64 (hlf m i)),(8,i64 (l.length-i:Nat))],[(2,some [i64 m,.sl .plain nl l.length (bys (dgs l))]),(3,some (bys d)),(4,some [i64 0,.sl (.own 16) none 0 []]),(6,some (bys (z6ja l d i)))]⟩) (fun i=>t-i) (fun i=>i≤t) 0 (by simp[hlf]) (Nat.zero_le _) fun i hi=> ?_
   refine z1g fun Q1 hQ1=> ?_
   have fl:=z2hb l d i
   have tk:=z7ta fl
   have hth:=z4Vc m i (by omega)
   have hle:=z70c m i
   have et:((hlf m i:Nat):Int).tmod 2=((hlf m i% 2:Nat):Int):=rfl
   have hpi:=z0tc (hlf m i)
   by_cases h:i<t
   ·have ho1:hlf m i% 2=1:=hpi.1 (by omega)
    have hat:=z8cb hl (show l.length-i-1<l.length by omega)
    have hal:=z4Ga hl (show l.length-i-1<l.length by omega)
    have es:z0f 2 [z5la l (l.length-i-1),z6ja l d i]=z6ja l d (i+1):=by rw[z6ja,show l.length-1-i=l.length-i-1 by omega]
    have fl1:=z2hb l d (i+1)
    have ei:(((l.length-i:Nat):Int)-1).toNat=l.length-i-1:=by omega
    simp(maxSteps:=1000000) (disch:=first|omega|simp;done|simp;omega) [z7G,z8pa,z7pa,z5Na,z37a,et,ho1,kT,kF,hat,hdl,ei,h202,z1ac hal fl,es,fl1,fl,tk,z9pa]
    refine⟨⟨by omega,by omega⟩,by omega,?_⟩
    rw[hQ1]
    refine⟨i+1,by omega,by omega,?_⟩
    rw[hlf]
    simp
    omega
   ·have hit:i=t:=by omega
    subst hit
    have ho1:hlf m i% 2=0:=by omega
    have el:dgs (z9ca l d i)=dgs (l.take (l.length-i))++z6ja l d i:=by rw[z9ca,z4Mb,z43a,z0wc,List.append_nil]
    have ell:(z9ca l d i).length=l.length-i+1:=by simp[z9ca]
    have htk:=z63a hl (l.length-i)
    have htl:=z2ua (z4v hl (l.length-i))
    rw[List.length_take,Nat.min_eq_left (by omega)] at htl
    simp(maxSteps:=1000000) (disch:=first|omega|simp;done|simp;omega) [z7G,z8pa,z7pa,z5Na,et,ho1,kT,kF]
    rw[hQ1]
    show Q0 (.exit 0) _
    rw[hQ0]
    show awp E z1Na _ _
    simp(maxSteps:=1000000) (disch:=first|omega|simp;done|simp;omega) [z7G,z8pa,z7pa,z1Na,z9pa,fl,tk,hdl,htk,htl,el,ell]
    omega
end Go.Abs
end

section
namespace Go.Abs
set_option maxRecDepth 100000
set_option maxHeartbeats 8000000
theorem z7Yc {s:Nat} {q:List (List UInt8)} {d:List UInt8} (h:z9n q) (ho:q.length=oN s) (hs:s≤62000):z66c.post [.agg [i64 (s:Int),.sl .plain none q.length (bys (dgs q))],.agg (bys d)]= .tup [.agg [i64 ((s:Int)+1),.sl .plain none (z9ca q d (t1N s)).length (bys (dgs (z9ca q d (t1N s))))],i64 0]:=by
 have h1:z5Ub (s:Int) q d=(((s:Int)+1,z9ca q d (t1N s)),0):=by
  rw[z5Ub,if_pos ⟨by simp[okP,ho];omega,by omega⟩,Int.toNat_natCast]
 rw[z5gc h rfl rfl,h1]
 rfl
theorem z03c (n:Nat) (q l:List (List UInt8)) (d:List UInt8):z6r n q (l++[d])=z9ca (z6r n q l) d (t1N (n+l.length)):=by rw[z0q];rfl
theorem z9zd (E:Env) (h375:E.G 375=z7mb) (h382:E.G 382=z3md) (h212:E.G 212=z66c):∀ds,z34b.pre ds→ds.length=z4ra.n∧awp E z4ra.body (z6va z4ra.res (z34b.post ds)) (z4H z4ra.wr ds):=by
 rintro _ ⟨l,n,h,hn,rfl⟩
 rw[z9Xa n h]
 have hs:=h.s
 have p3:z7mb.pre [z4Ca none none l]=True:=z3fb h
 have p4:z7mb.post [z4Ca none none l]=i64 (l.len:Int):=z1Oa h
 have hll:l.len=l.size+l.ents.length:=rfl
 simp only[z4Ca,z5Aa,z5sa] at p3 p4⊢
 by_cases c1:n<l.size
 ·have hr:z8rb l n=((0,[]),11):=by rw[z8rb,if_pos (.inl c1)]
  have d1:decide (n<(l.size:Int))=true:=decide_eq_true c1
  rw[hr]
  simp(maxSteps:=1000000) (disch:=first|omega|simp;done|simp;omega) [z7G,z8pa,z7pa,z4ra,pkA,z5Aa,d1,kT,kF,z4wa,z2wa]
  skip
 ·have d1:decide (n<(l.size:Int))=false:=decide_eq_false c1
  by_cases c2:(l.len:Int)<n
  ·have hr:z8rb l n=((0,[]),11):=by rw[z8rb,if_pos (.inr c2)]
   have d2:decide ((l.len:Int)<n)=true:=decide_eq_true c2
   rw[hr]
   simp(maxSteps:=1000000) (disch:=first|omega|simp;done|simp;omega) [z7G,z8pa,z7pa,z4ra,pkA,z5Aa,d1,d2,h375,p3,p4,kT,kF,z4wa,z2wa]
   skip
  ·have c1':(l.size:Int)≤n:=by omega
   have c2':n≤(l.len:Int):=by omega
   have d2:decide ((l.len:Int)<n)=false:=decide_eq_false c2
   have hlen:=z4ta h.e
   have htk:=z9zb h.e (n.toNat-l.size)
   have hsm:z2vb (l.ents.take (n.toNat-l.size)):=fun x hx=>h.e x (List.mem_of_mem_take hx)
   have hle:(l.ents.take (n.toNat-l.size)).length=n.toNat-l.size:=by rw[List.length_take];omega
   have g1:=z9Pc (nl:=none) hsm (by have:=h.n;omega)
   have g2:=z8dc (nl:=none) hsm
   have i1:(n-(l.size:Int)).toNat=n.toNat-l.size:=by omega
   rw[z5Rb c1' c2',z4w]
   have h16:=z3Vb (l.ents.take (n.toNat-l.size))
   have hDl:(z3h (l.ents.take (n.toNat-l.size))).length=n.toNat-l.size:=by rw[z9m,hle]
   simp only[z5sa,hle,z7rb,hDl] at g1 g2
   generalize z3h (l.ents.take (n.toNat-l.size))=D at*
   generalize hQf:z6va z4ra.res (.tup [pkA n none (z6r l.size l.roots D),i64 ((0:Nat):Int)])=Qf
   have hrl:l.roots.length≤62000:=by have:=h.o;have:=z9tb l.size;omega
   simp(maxSteps:=1000000) (disch:=first|omega|simp;done|simp;omega) [z7G,z8pa,z7pa,z4ra,z2Xa,pkA,z5Aa,d1,d2,h375,p3,p4,kT,kF,h382,g1,g2,i1,hlen,htk,z4wa,z2wa]
   refine⟨⟨by omega,by omega⟩,⟨z2ua h.r,by omega,by omega⟩,?_⟩
   refine z1g fun Q1 hQ1=> ?_
   have hA:∀i,z9n (z6r l.size l.roots (D.take i)):=fun i=>z6v h.r
   have hAl:∀i,i≤n.toNat-l.size→(z6r l.size l.roots (D.take i)).length=oN (l.size+i):=fun i hi=>by
    rw[z7o _ h.o,List.length_take,hDl,Nat.min_eq_left hi]
   refine z2v (fun i:Nat=>⟨[(0,.agg [i64 l.size,.sl .plain none l.roots.length (bys (dgs l.roots)),.sl .plain none l.ents.length (z6ra l.ents)]),(1,i64 n)],[(4,.bp 4 0),(6,.sl (.own 16) none (n.toNat-l.size) (bys (dgs D))),(7,.bp 7 0),(8,i64 i)],
    [(2,some [i64 l.size,.sl .plain none l.roots.length (bys (dgs l.roots)),.sl .plain none l.ents.length (z6ra l.ents)]),(4,some [i64 0,.sl .plain none 0 []]),(7,some [i64 ((l.size+i:Nat):Int),.sl .plain none (z6r l.size l.roots (D.take i)).length (bys (dgs (z6r l.size l.roots (D.take i))))])]⟩)
    (fun i=>n.toNat-l.size-i) (fun i=>i≤n.toNat-l.size) 0 (by simp[z6r]) (by simp) fun i hi=> ?_
   refine z1g fun Q2 hQ2=> ?_
   by_cases c:i<n.toNat-l.size
   ·have hat:=z8cb h16 (show i<D.length by omega)
    have hal:=z4Ga h16 (show i<D.length by omega)
    have hdD:=z2ua h16
    have a1:=z8ld (nl:=none) (n:=((l.size+i:Nat):Int)) (d:=z5la D i) ⟨by omega,by omega⟩ (hA i) (by rw[hAl i hi];have:=z9tb (l.size+i);omega) hal rfl rfl
    have a2:=z7Yc (d:=z5la D i) (hA i) (hAl i hi) (by omega)
    have hT:z6r l.size l.roots (D.take (i+1))=z9ca (z6r l.size l.roots (D.take i)) (z5la D i) (t1N (l.size+i)):=by
     have e:D.take (i+1)=D.take i++[z5la D i]:=by
      rw[List.take_succ_eq_append_getElem (by omega)]
      simp[z5la,List.getD,List.getElem?_eq_getElem (show i<D.length by omega)]
     rw[e,z03c,List.length_take,hDl,Nat.min_eq_left hi]
    rw[←hT] at a2
    have e3:((l.size+i:Nat):Int)+1=((l.size+(i+1):Nat):Int):=by omega
    rw[e3] at a2
    have cI:(i:Int)<((n.toNat-l.size:Nat):Int):=by omega
    have l1:16≤(n.toNat-l.size)*16-i*16:=by omega
    have l2:i*16≤(n.toNat-l.size)*16:=by omega
    rw[hDl] at hdD
    generalize hA2:z6r l.size l.roots (D.take (i+1))=A2 at*
    generalize z6r l.size l.roots (D.take i)=A1 at*
    generalize z5la D i=dd at*
    generalize hz2:((l.size+(i+1):Nat):Int)=z2 at*
    generalize((l.size+i:Nat):Int)=z1 at*
    simp(maxSteps:=1000000) (disch:=first|omega|simp;done|simp;omega) [z7G,z8pa,z7pa,z2Ja,z7Va,kT,kF,dT,dF,c,cI,hdD,hat,hal,h212,a1,a2,l1,l2,z4wa,z2wa,hQ2]
    exact⟨i+1,by omega,by omega,by omega,by omega,by rw[hA2],by rw[hA2]⟩
   ·obtain rfl:i=n.toNat-l.size:=by omega
    have hT:D.take (n.toNat-l.size)=D:=List.take_of_length_le (by omega)
    have en:((l.size+(n.toNat-l.size):Nat):Int)=n:=by omega
    have cI:¬(((n.toNat-l.size:Nat):Int)<((n.toNat-l.size:Nat):Int)):=by omega
    rw[hT,en]
    simp(maxSteps:=1000000) (disch:=first|omega|simp;done|simp;omega) [z7G,z8pa,z7pa,z2Ja,z1Ya,kT,kF,dT,dF,cI,hQ2,hQ1,←hQf,z4wa,z2wa,pkA,z5Aa,z4ra]
    skip
theorem z4kd (E:Env) (h375:E.G 375=z7mb) (h379:E.G 379=z34b) (h213:E.G 213=z3kc):∀ds,z0Tb.pre ds→ds.length=z2xa.n∧awp E z2xa.body (z6va z2xa.res (z0Tb.post ds)) (z4H z2xa.wr ds):=by
 rintro _ ⟨l,h,rfl⟩
 rw[z0Zb h]
 have hs:=h.s
 have hll:l.len=l.size+l.ents.length:=rfl
 have p3:z7mb.pre [z4Ca none none l]=True:=z3fb h
 have p4:z7mb.post [z4Ca none none l]=i64 (l.len:Int):=z1Oa h
 have q1:z34b.pre [z4Ca none none l,i64 (l.len:Int)]=True:=z2sb h ⟨by omega,by omega⟩
 have q2:=z9Xa (l:=l) (l.len:Int) h
 have hp:z8rb l (l.len:Int)=(((l.len:Int),z6r l.size l.roots (z3h l.ents)),0):=by
  rw[z8rb,if_neg (by omega),Int.toNat_natCast,List.take_of_length_le (by omega)]
 rw[hp] at q2
 have hA:z9n (z6r l.size l.roots (z3h l.ents)):=z6v h.r
 have hAl:(z6r l.size l.roots (z3h l.ents)).length=oN l.len:=by rw[z7o _ h.o];simp[z3h,z0n.len]
 have t1:z3kc.pre [.agg [i64 (l.len:Int),.sl .plain none (z6r l.size l.roots (z3h l.ents)).length (bys (dgs (z6r l.size l.roots (z3h l.ents))))]]=True:=z8Ac ⟨by omega,by omega⟩ hA (by have:=z9tb l.len;omega) rfl rfl
 have t2:=z2Ib (n:=(l.len:Int)) (m:= .plain) (nl:=none) hA rfl rfl
 have ho:okP (l.len:Int) (z6r l.size l.roots (z3h l.ents)).length=true:=by simp[okP,hAl];omega
 have tl:(z06b (l.len:Int) (z6r l.size l.roots (z3h l.ents))).1.length=16:=by
  rw[z06b,if_pos ho]
  show(if(l.len:Int)=0 then z9ia [] else _).length=16
  split
  ·exact z0Xa []
  ·exact z9La hA (by rw[hAl];exact z4Sb (by omega)) _
 simp only[z4Ca,z5Aa,z5sa,pkA] at p3 p4 q1 q2⊢
 unfold z86c
 generalize z06b (l.len:Int) (z6r l.size l.roots (z3h l.ents))=T at*
 generalize z6r l.size l.roots (z3h l.ents)=A at*
 simp(maxSteps:=1000000) (disch:=first|omega|simp;done|simp;omega) [z7G,z8pa,z7pa,z2xa,h375,p3,p4,h379,q1,q2,h213,t1,t2,tl,z4wa,z2wa,z9pa,z7ta tl]
 skip
theorem z4td (E:Env) (h375:E.G 375=z7mb) (h379:E.G 379=z34b) (h382:E.G 382=z3md) (h383:E.G 383=z44b):∀ds,z5Gc.pre ds→ds.length=z9ra.n∧awp E z9ra.body (z6va z9ra.res (z5Gc.post ds)) (z4H z9ra.wr ds):=by
 rintro _ ⟨l,m,h,hm,rfl⟩
 rw[z5Gb m h]
 have hs:=h.s
 have hn:=h.n
 have hll:l.len=l.size+l.ents.length:=rfl
 have p3:z7mb.pre [z4Ca none none l]=True:=z3fb h
 have p4:z7mb.post [z4Ca none none l]=i64 (l.len:Int):=z1Oa h
 have q1:=z2sb h hm
 have q2:=z9Xa m h
 by_cases c0:m<1
 ·rw[z2S,if_pos (.inl c0)]
  simp only[z4Ca,z5Aa,z5sa] at p3 p4⊢
  simp(maxSteps:=1000000) (disch:=first|omega|simp;done|simp;omega) [z7G,z8pa,z7pa,z9ra,kT,kF,dT,dF,c0]
  skip
 ·by_cases c1:m<(l.size:Int)
  ·rw[z2S,if_pos (.inr (.inl c1))]
   simp only[z4Ca,z5Aa,z5sa] at p3 p4⊢
   simp(maxSteps:=1000000) (disch:=first|omega|simp;done|simp;omega) [z7G,z8pa,z7pa,z9ra,kT,kF,dT,dF,c0,c1]
   skip
  ·by_cases c2:(l.len:Int)<m
   ·rw[z2S,if_pos (.inr (.inr c2))]
    simp only[z4Ca,z5Aa,z5sa] at p3 p4⊢
    simp(maxSteps:=1000000) (disch:=first|omega|simp;done|simp;omega) [z7G,z8pa,z7pa,z9ra,kT,kF,dT,dF,c0,c1,c2,h375,p3,p4]
    skip
   ·rw[z5Rb (by omega) (by omega)] at q2
    rw[z3s (by omega) (by omega) (by omega)]
    have i1:(m-(l.size:Int)).toNat=m.toNat-l.size:=by omega
    have hlen:=z4ta h.e
    have hdr:=z0cb h.e (m.toNat-l.size)
    have hld:(l.ents.drop (m.toNat-l.size)).length=l.ents.length-(m.toNat-l.size):=List.length_drop
    have hsd:z2vb (l.ents.drop (m.toNat-l.size)):=fun x hx=>h.e x (List.mem_of_mem_drop hx)
    have g1:=z9Pc (nl:=none) hsd (by omega)
    have g2:=z8dc (nl:=none) hsd
    have htk:List.take ((l.ents.length-(m.toNat-l.size))*30) (z6ra (l.ents.drop (m.toNat-l.size)))=z6ra (l.ents.drop (m.toNat-l.size)):=List.take_of_length_le (by rw[z4ta hsd,hld];exact Nat.le_refl _)
    have ok:z2cc l.len m.toNat (z4w l m) (z32 l m):=⟨by omega,by rw[z32,z9m,hld];omega,by omega,z1Z h m,z3Vb _,z4M h (by omega) (by omega)⟩
    have em:((m.toNat:Nat):Int)=m:=by omega
    have f1:=z9Ob (w:=true) (nq:=none) (nl:=none) ok
    have f2:=z0kb (w:=true) (nq:=none) (nl:=none) ok
    have hnl:z0vb l.len m.toNat true=none:=by simp[z0vb]
    have hBl:(z32 l m).length=l.ents.length-(m.toNat-l.size):=by rw[z32,z9m,hld]
    have hPl:=z3wb l.len m.toNat true (z4w l m) (z32 l m) (by omega) (by omega)
    rw[z2Vb,hnl] at f2
    rw[show z3h (l.ents.drop (m.toNat-l.size))=z32 l m from rfl] at g2
    simp only[z4Ca,z5Aa,z5sa,pkA,z7rb,hld,em,hBl] at p3 p4 q1 q2 f1 f2 g1 g2⊢
    generalize z4w l m=A at*
    generalize prf l.len m.toNat true A (z32 l m)=P at*
    generalize z32 l m=B at*
    simp(maxSteps:=1000000) (disch:=first|omega|simp;done|simp;omega) [z7G,z8pa,z7pa,z9ra,z7Pa,kT,kF,dT,dF,c0,c1,c2,h379,h375,h382,h383,p3,p4,q1,q2,f1,f2,g1,g2,i1,hlen,hdr,htk,z4wa,z2wa]
    exact⟨by omega,by omega⟩
end Go.Abs
end

section
namespace Go.Abs
set_option maxRecDepth 100000
set_option maxHeartbeats 8000000
structure z8Wc where
 from':Int
 ents:List z2n
 prs:List (List (List UInt8))
def z36b (l:List (List (List UInt8))):List z0a:=l.map (z5Aa none)
def z54b (np:Option Bool) (p:z8Wc):z0a:= .agg [i64 p.from',z5sa none p.ents,.sl .plain np p.prs.length (z36b p.prs)]
def z9qc (l:z0n) (a b:Int):List z2n:=(l.ents.drop (a.toNat-l.size)).take (b.toNat-a.toNat)
def z1Tb (l:z0n) (a b:Int):z8Wc×Nat:=if a<l.size∨(l.len:Int)<a∨b≤a∨(l.len:Int)<b then(⟨0,[],[]⟩,11) else(⟨a,z9qc l a b,[z4w l a,(z2S l b).1]⟩,0)
def z7Eb (e:Nat):Option Bool:=if e=0 then some false else none
def z5Nc:z1f:=⟨fun ds=>∃(l:z0n) (a b:Int),l.ok∧z2e a∧z2e b∧ds=[z4Ca none none l,i64 a,i64 b],
 fun ds=>let r:=z1Tb (z5Cb (nth ds 0)) (asI (nth ds 1)) (asI (nth ds 2));.tup [z54b (z7Eb r.2) r.1,i64 (r.2:Int)]⟩
theorem z3Kd {l:z0n} {a b:Int} (h:l.ok) (ha:z2e a) (hb:z2e b):z5Nc.pre [z4Ca none none l,i64 a,i64 b]=True:=eq_true ⟨l,a,b,h,ha,hb,rfl⟩
theorem z5cc {l:z0n} (a b:Int) (h:l.ok):z5Nc.post [z4Ca none none l,i64 a,i64 b]= .tup [z54b (z7Eb (z1Tb l a b).2) (z1Tb l a b).1,i64 ((z1Tb l a b).2:Int)]:=by
 show(let r:=z1Tb (z5Cb (z4Ca none none l)) a b;z0a.tup [z54b (z7Eb r.2) r.1,i64 (r.2:Int)])=_
 rw[z7Gb h]
theorem z38d (E:Env) (h349:E.G 349=z7mb) (h348:E.G 348=z34b) (h353:E.G 353=z5Gc) (h358:E.G 358=z2Cb):∀ds,z5Nc.pre ds→ds.length=z5Fa.n∧awp E z5Fa.body (z6va z5Fa.res (z5Nc.post ds)) (z4H z5Fa.wr ds):=by
 rintro _ ⟨l,a,b,h,ha,hb,rfl⟩
 rw[z5cc a b h]
 have hs:=h.s
 have hn:=h.n
 have hll:l.len=l.size+l.ents.length:=rfl
 have p3:z7mb.pre [z4Ca none none l]=True:=z3fb h
 have p4:z7mb.post [z4Ca none none l]=i64 (l.len:Int):=z1Oa h
 have q1:=z2sb h ha
 have q2:=z9Xa a h
 have e1:=z0xc h hb
 have e2:=z5Gb b h
 have e0:z6ra []=[]:=rfl
 by_cases c0:a<l.size∨(l.len:Int)<a
 ·rw[z8rb,if_pos c0] at q2
  have hr:z1Tb l a b=(⟨0,[],[]⟩,11):=by rw[z1Tb,if_pos (by omega)]
  rw[hr]
  simp only[z4Ca,z5Aa,z5sa,pkA] at p3 p4 q1 q2⊢
  simp(maxSteps:=1000000) (disch:=first|omega|simp;done|simp;omega) [z7G,z8pa,z7pa,z5Fa,kT,kF,h348,q1,q2,z4wa,z2wa,z54b,z5sa,e0,z36b,z7Eb]
  skip
 ·have c1:(l.size:Int)≤a:=by omega
  have c2:a≤(l.len:Int):=by omega
  rw[z5Rb c1 c2] at q2
  by_cases c3:b≤a
  ·have hr:z1Tb l a b=(⟨0,[],[]⟩,11):=by rw[z1Tb,if_pos (by omega)]
   rw[hr]
   simp only[z4Ca,z5Aa,z5sa,pkA] at p3 p4 q1 q2⊢
   simp(maxSteps:=1000000) (disch:=first|omega|simp;done|simp;omega) [z7G,z8pa,z7pa,z5Fa,kT,kF,dT,dF,c3,h348,q1,q2,z4wa,z2wa,z54b,z5sa,e0,z36b,z7Eb]
   skip
  ·by_cases c4:(l.len:Int)<b
   ·have hr:z1Tb l a b=(⟨0,[],[]⟩,11):=by rw[z1Tb,if_pos (by omega)]
    rw[hr]
    simp only[z4Ca,z5Aa,z5sa,pkA] at p3 p4 q1 q2⊢
    simp(maxSteps:=1000000) (disch:=first|omega|simp;done|simp;omega) [z7G,z8pa,z7pa,z5Fa,kT,kF,dT,dF,c3,c4,h348,h349,p3,p4,q1,q2,z4wa,z2wa,z54b,z5sa,e0,z36b,z7Eb]
    skip
   ·have hr:z1Tb l a b=(⟨a,z9qc l a b,[z4w l a,(z2S l b).1]⟩,0):=by rw[z1Tb,if_neg (by omega)]
    have hE2:(z2S l b).2=0:=by rw[z3s (by omega) (by omega) (by omega)]
    have i1:(a-(l.size:Int)).toNat=a.toNat-l.size:=by omega
    have i2:(b-(l.size:Int)).toNat=b.toNat-l.size:=by omega
    have hlen:=z4ta h.e
    have hsc:z2vb (z9qc l a b):=fun x hx=>h.e x (List.mem_of_mem_drop (List.mem_of_mem_take hx))
    have hlc:(z9qc l a b).length=b.toNat-a.toNat:=by rw[z9qc,List.length_take,List.length_drop];omega
    have k1:z2Cb.pre [.sl .plain none (b.toNat-a.toNat) (z6ra (z9qc l a b))]=True:=eq_true ⟨none,_,_,by rw[z4ta hsc,hlc],z3eb _,by omega,rfl⟩
    have k2:z2Cb.post [.sl .plain none (b.toNat-a.toNat) (z6ra (z9qc l a b))]= .sl (.own 30) none (b.toNat-a.toNat) (z6ra (z9qc l a b)):=rfl
    have h2:=z0cb h.e (a.toNat-l.size)
    have h3:=z9zb (l:=l.ents.drop (a.toNat-l.size)) (fun x hx=>h.e x (List.mem_of_mem_drop hx)) (b.toNat-a.toNat)
    rw[show(l.ents.drop (a.toNat-l.size)).take (b.toNat-a.toNat)=z9qc l a b from rfl] at h3
    have i3:b.toNat-l.size-(a.toNat-l.size)=b.toNat-a.toNat:=by omega
    rw[hr]
    simp only[z4Ca,z5Aa,z5sa,pkA,hE2] at p3 p4 q1 q2 e1 e2⊢
    generalize z4w l a=A at*
    generalize(z2S l b).1=P at*
    simp(maxSteps:=1000000) (disch:=first|omega|simp;done|simp;omega) [z7G,z8pa,z7pa,z5Fa,z1Db,kT,kF,dT,dF,c3,c4,h348,h349,p3,p4,q1,q2,h353,e1,e2,h358,k1,k2,i1,i2,i3,hlen,h2,h3,z4wa,z2wa,z54b,z5sa,z5Aa,z36b,z7Eb,hlc]
    exact⟨⟨by omega,by omega⟩,by omega,by omega⟩
end Go.Abs
end

section
namespace Go.Abs
@[simp] theorem z2je (ps:List (Bool×Option Bool×List UInt8)):(mls ps).length=ps.length:=by simp[mls]
def atP (ps:List (Bool×Option Bool×List UInt8)) (i:Nat):Bool×Option Bool×List UInt8:=ps.getD i (true,none,[])
theorem z1Uc {ps:List (Bool×Option Bool×List UInt8)} {i:Nat} (h:i<ps.length):atP ps i=ps[i]:=by simp[atP,List.getD,List.getElem?_eq_getElem h]
@[simp] theorem z3ge (b:Bool) (nl:Option Bool) (n:Nat) (cs:List z0a):dem (.sl (mdA b) nl n cs)= .sl .plain nl n cs:=by cases b<;>rfl
theorem z7pd {ps:List (Bool×Option Bool×List UInt8)} {i:Nat} (h:i<ps.length):hdA ((mls ps).drop i)= .sl (mdA (atP ps i).1) (atP ps i).2.1 (atP ps i).2.2.length (bys (atP ps i).2.2):=by
 rw[mls,←List.map_drop,List.drop_eq_getElem_cons h,List.map_cons,z1Uc h]
 rfl
def z3gc (ps:List (Bool×Option Bool×List UInt8)):Nat:=(ps.map fun p=>p.2.2.length).sum
theorem z3Nd (ps:List (Bool×Option Bool×List UInt8)):z8md (ps.map (·.2))=z3gc ps:=by rw[z8md,z3gc,List.map_map];rfl
theorem z9Bc (a b:List (Bool×Option Bool×List UInt8)):z3gc (a++b)=z3gc a+z3gc b:=by
 induction a with
 |nil=>simp[z3gc]
 |cons x a ih=>simp only[z3gc,List.cons_append,List.map_cons,List.sum_cons] at ih⊢;omega
theorem z25b {ps:List (Bool×Option Bool×List UInt8)} {i:Nat} (h:i<ps.length):z3gc (ps.take (i+1))=z3gc (ps.take i)+(atP ps i).2.2.length:=by
 rw[List.take_succ_eq_append_getElem h,z9Bc,z1Uc h]
 rfl
theorem z3jb (ps:List (Bool×Option Bool×List UInt8)) (i:Nat):z3gc (ps.take i)≤z3gc ps:=by
 have:=z9Bc (ps.take i) (ps.drop i)
 rw[List.take_append_drop] at this
 omega
theorem z8cc {ps:List (Bool×Option Bool×List UInt8)} {i:Nat} (h:i<ps.length):(ps.take (i+1)).flatMap (·.2.2)=(ps.take i).flatMap (·.2.2)++(atP ps i).2.2:=by
 rw[List.take_succ_eq_append_getElem h,List.flatMap_append,List.flatMap_cons,List.flatMap_nil,List.append_nil,z1Uc h]
theorem z1Id (ps:List (Bool×Option Bool×List UInt8)):(ps.flatMap (·.2.2)).length=z3gc ps:=by simp[z3gc,List.length_flatMap]
theorem z0Tc (E:Env) (h139:E.G 139=z0lc):∀ds,z8Na.pre ds→ds.length=z9Ca.n∧awp E z9Ca.body (z6va z9Ca.res (z8Na.post ds)) (z4H z9Ca.wr ds):=by
 rintro _ ⟨nl,ps,ht,hps,rfl⟩
 rw[z3xb]
 rw[z3Nd] at ht
 simp(maxSteps:=1000000) (disch:=first|omega|simp;done|simp;omega) [z7G,z8pa,z7pa,z9Ca,z3hb,z3ib]
 refine z1g fun Q0 hQ0=> ?_
 simp(maxSteps:=1000000) (disch:=first|omega|simp;done|simp;omega) [z7G,z8pa,z7pa,z8jb]
 refine z2v (fun i:Nat=>⟨[(0,.sl .plain nl ps.length (mls ps))],[(3,i64 (z3gc (ps.take i):Nat)),(9,.sl .plain nl ps.length (mls ps)),(10,i64 ps.length),(11,i64 i)],[]⟩)
  (fun i=>ps.length-i) (fun i=>i≤ps.length) 0 (by simp[z3gc]) (by simp) fun i hi=> ?_
 refine z1g fun Q1 hQ1=> ?_
 have tl:=z3jb ps i
 by_cases h1:i<ps.length
 ·have ts:=z25b h1
  have tl':=z3jb ps (i+1)
  generalize hX:atP ps i=x at*
  obtain⟨xm,xn,xb⟩:=x
  simp only at ts
  have hneg:¬((z3gc (ps.take i):Int)+xb.length<0):=by omega
  simp(maxSteps:=1000000) (disch:=first|omega|simp;done|simp;omega) [z7G,z8pa,z7pa,z0Wa,z5Va,z5jb,z4hb,z1jb,z8hb,kT,kF,dT,dF,h1,z7pd,hX,hQ1,hneg]
  exact⟨by omega,i+1,by omega,by omega,by omega,by omega⟩
 ·obtain rfl:i=ps.length:=by omega
  simp(maxSteps:=1000000) (disch:=first|omega|simp;done|simp;omega) [z7G,z8pa,z7pa,z0Wa,z5Va,kT,kF,dT,dF,hQ1,hQ0,z9ib,z5hb,z4fb,h139,z2ld]
  refine z2v (fun i:Nat=>⟨[(0,.sl .plain nl ps.length (mls ps))],[(6,.sl (.own 1) none ((ps.take i).flatMap (·.2.2)).length (bys ((ps.take i).flatMap (·.2.2)))),(25,.sl .plain nl ps.length (mls ps)),(26,i64 ps.length),(27,i64 i)],[]⟩)
   (fun i=>ps.length-i) (fun i=>i≤ps.length) 0 (by simp) (by simp) fun i hi=> ?_
  refine z1g fun Q2 hQ2=> ?_
  have tl:=z3jb ps i
  by_cases h1:i<ps.length
  ·have cs:=z8cc h1
   have cl:=z1Id (ps.take (i+1))
   have tl':=z3jb ps (i+1)
   generalize hX:atP ps i=x at*
   obtain⟨xm,xn,xb⟩:=x
   simp only at cs
   generalize hF:(ps.take i).flatMap (·.2.2)=F at*
   simp(maxSteps:=1000000) (disch:=first|omega|simp;done|simp;omega) [z7G,z8pa,z7pa,z3Wa,z4Qa,z5fb,z4cb,kT,kF,dT,dF,h1,z7pd,hX,hQ2]
   have e:z3gc (ps.take (i+1))=(List.take (i+1) (List.map (fun a=>a.2.2.length) ps)).sum:=by rw[z3gc,List.map_take]
   rw[cs,List.length_append] at cl
   exact⟨by omega,by omega,i+1,by omega,by omega,⟨by rw[←e];exact cl,cs.symm⟩,by omega⟩
  ·obtain rfl:i=ps.length:=by omega
   simp(maxSteps:=1000000) (disch:=first|omega|simp;done|simp;omega) [z7G,z8pa,z7pa,z3Wa,z4Qa,kT,kF,dT,dF,hQ2,z7eb]
end Go.Abs
end

section
namespace Go.Abs
set_option maxRecDepth 100000
def atD (l:List z3P) (i:Nat):z3P:=l.getD i mad0
theorem z30b {l:List z3P} {i:Nat} (h:i<l.length):atD l i=l[i]:=by simp[atD,List.getD,List.getElem?_eq_getElem h]
theorem z6fc {l:List z3P} {i:Nat} (h:i<l.length):atD l i∈l:=by rw[z30b h];exact List.getElem_mem h
theorem z7Oc {l:List z3P} (h:z59a l) {i:Nat} (hi:i<l.length):((z0Ca l).drop (i*24)).take 24=z5Ma (atD l i):=by
 have e1:=z9sb (enc:=z5Ma) (P:=z6uc) (w:=24) (fun a ha=>z3Ja ha) l i (z1Ca h)
 have hd:=z1Ca h _ (List.getElem_mem hi)
 rw[show z0Ca l=l.flatMap z5Ma from rfl,e1,List.drop_eq_getElem_cons hi,List.flatMap_cons,List.take_left' (z3Ja hd),z30b hi]
/-! ### a key's cells, by name -/
@[simp] theorem mad_0 (m:z3P):hdA (z5Ma m)=i64 m.id:=rfl
@[simp] theorem mad_1 (m:z3P):hdA ((z5Ma m).drop 1)=i64 m.ty:=rfl
@[simp] theorem mad_1t (m:z3P):hdA (z5Ma m).tail=i64 m.ty:=rfl
@[simp] theorem mad_2 (m:z3P):hdA ((z5Ma m).drop 2)=i64 m.uses:=rfl
@[simp] theorem mad_3 (m:z3P):hdA ((z5Ma m).drop 3)=i64 m.beg:=rfl
@[simp] theorem mad_4 (m:z3P):hdA ((z5Ma m).drop 4)=i64 m.fin:=rfl
@[simp] theorem mad_5 (m:z3P):hdA ((z5Ma m).drop 5)=i64 m.ver:=rfl
@[simp] theorem mad_6 (m:z3P):hdA ((z5Ma m).drop 6)=i64 m.par:=rfl
@[simp] theorem mad_7 (m:z3P):hdA ((z5Ma m).drop 7)=bo m.raw:=rfl
@[simp] theorem mad_8 (m:z3P):(z5Ma m).drop 8=bys m.dig:=rfl
theorem z3zb (m:z3P):(∀c∈z5Ma m,z8a c)=True:=eq_true fun c hc=>(z5Vb c hc).2
theorem z3Mb (m:z3P):(∀c∈z5Ma m,z5b c=false)=True:=eq_true fun c hc=>by
 rcases List.mem_append.1 hc with h|h
 ·simp only[List.mem_cons,List.not_mem_nil,or_false] at h
  rcases h with rfl|rfl|rfl|rfl|rfl|rfl|rfl|rfl<;>rfl
 ·simp only[bys,List.mem_map] at h
  obtain⟨x,_,rfl⟩:=h
  rfl
theorem z2Vd {m:z3P} (h:m.dig.length=16):(z5Ma m).take 24=z5Ma m:=List.take_of_length_le (by rw[z3Ja h];exact Nat.le_refl _)
theorem z5Uc {m:z3P} (h:m.dig.length=16) {zs:List z0a} (hz:zs.length=24):splice zs 0 (z5Ma m)=z5Ma m:=z9pa (by rw[z3Ja h,hz])
@[simp] theorem z4fe (m:z3P):z8b (z5Ma m)=true:=(z4i _).2 fun c hc=>(z5Vb c hc).1
@[simp] theorem z6de (m:z3P):z6b (z5Ma m)=[]:=by simp[z5Ma,z6b]
end Go.Abs
end

section
namespace Go.Abs
/-! ### structs that are built, step by step -/
def z2M (get:Nat→z0a) (n:Nat):z0a:=dem (get n)
@[simp] theorem z3ja (get:Nat→z0a) (n:Nat):z2M get n=dem (get n):=rfl
@[simp ↓ high] theorem z17 (E:Env) (get:Nat→z0a) (getB:Nat→Option (List z0a)) (z:List z0a) (ps:List (Nat×Nat×Arg)):eff E get getB (.build z ps)={val:= .agg (z5g E (z2M get) ps z)}:=rfl
@[simp ↓ high] theorem z78 (E:Env) (get:Nat→z0a) (getB:Nat→Option (List z0a)) (z:List z0a) (ps:List (Nat×Nat×Arg)):okp E get getB (.build z ps)=z1e E (z2M get) ps z.length:=rfl
def z1ga (d dd:z0a) (cs:List z0a) (i s:Nat):Eff:=match d with| .sl (.own e) nl n c=>{val:= .oagg (cs.take i) e nl n c (cs.drop (i+1)),sl:=[(s,dd)]}|_=>{val:= .undef}
@[simp] theorem z2ea (e:Nat) (nl:Option Bool) (n:Nat) (c:List z0a) (dd:z0a) (cs:List z0a) (i s:Nat):z1ga (.sl (.own e) nl n c) dd cs i s={val:= .oagg (cs.take i) e nl n c (cs.drop (i+1)),sl:=[(s,dd)]}:=rfl
@[simp ↓ high] theorem z7ba (E:Env) (get:Nat→z0a) (getB:Nat→Option (List z0a)) (z:List z0a) (ps:List (Nat×Nat×Arg)) (i s:Nat):eff E get getB (.buildO z ps i s)=z1ga (get s) (dem (get s)) (z5g E (z2M get) (ps++[(i,1,.s s)]) z) i s:=by
 simp only[eff,z1ga]
 rfl
@[simp ↓ high] theorem z9da (E:Env) (get:Nat→z0a) (getB:Nat→Option (List z0a)) (z:List z0a) (ps:List (Nat×Nat×Arg)) (i s:Nat):okp E get getB (.buildO z ps i s)=(z1e E (z2M get) (ps++[(i,1,.s s)]) z.length∧(match get s with| .sl (.own _) _ _ _=>True|_=>False)):=rfl
@[simp ↓ high] theorem z7aa (E:Env) (d:Nat) (z:List z0a) (ps:List (Nat×Nat×Arg)) (i s:Nat) (o e:List (Nat×z0a)) (b:List (Nat×Option (List z0a))):okA E ⟨some d,none,.buildO z ps i s⟩ ⟨o,e,b⟩=
  ((lk o d=none∧lk o s=none)∧z1e E (z2M (ASt.get ⟨o,e,b⟩)) (ps++[(i,1,.s s)]) z.length∧(match ASt.get ⟨o,e,b⟩ s with| .sl (.own _) _ _ _=>True|_=>False)):=by
 have h:(∀x∈[d,s],lk o x=none)=(lk o d=none∧lk o s=none):=by simp
 rw[←h];rfl
@[simp ↓ high] theorem z9aa (E:Env) (d:Nat) (z:List z0a) (ps:List (Nat×Nat×Arg)) (o e:List (Nat×z0a)) (b:List (Nat×Option (List z0a))):okA E ⟨some d,none,.build z ps⟩ ⟨o,e,b⟩=
  (lk o d=none∧z1e E (z2M (ASt.get ⟨o,e,b⟩)) ps z.length):=by
 have h:(∀x∈[d],lk o x=none)=(lk o d=none):=by simp
 rw[←h];rfl
def z2ed (b:Bool):List Nat→List z6a→Option (List Nat)
 |ks,[]=>some ks
 |ks,⟨some d,some (t,w),op⟩::xs=>if ks.contains t&&(w !=b)&&op.wrS.isEmpty then z2ed b (ks.filter (· !=d)) xs else none
 |ks,⟨some d,none,.mv false (.s t)⟩::xs=>if ks.contains t then z2ed b (d::ks) xs else none
 |ks,⟨some d,none,.pick (.s t) (.c (.lit (.bool x))) (.s _)⟩::xs=>if ks.contains t&&b&&x then z2ed b (d::ks) xs else none
 |ks,⟨some d,none,.pick (.s t) (.s _) (.c (.lit (.bool x)))⟩::xs=>if ks.contains t&& !b&& !x then z2ed b (d::ks) xs else none
 |_,_=>none
def wrT (xs:List z6a):List Nat:=xs.flatMap fun o=>o.dst.toList
structure z4Id (b:Bool) (ks:List Nat) (ws:List Nat) (st st':ASt):Prop where
 org:st'.org=st.org
 box:st'.box=st.box
 val:∀s∈ks,st'.get s=bo b
 same:∀s,s∉ws→st'.get s=st.get s
theorem z7kd (o:List (Nat×z0a)) (d:Nat) (v:z0a) (e:List (Nat×z0a)) (b:List (Nat×Option (List z0a))) (s:Nat):ASt.get ⟨o,(d,v)::e,b⟩ s=if s=d then v else ASt.get ⟨o,e,b⟩ s:=by
 by_cases h:s=d
 ·simp only[ASt.get,lk,if_pos h]
 ·simp only[ASt.get,lk,if_neg h]
theorem z8Ec (E:Env) (b:Bool):∀(xs:List z6a) (ks ks':List Nat) (st:ASt),z2ed b ks xs=some ks'→(∀s∈ks,st.get s=bo b)→(∀s∈wrT xs,lk st.org s=none)→z5t E xs st∧z4Id b ks' (wrT xs) st (z8I E xs st)
 |[],ks,ks',st,hc,hk,_=>by
  simp only[z2ed,Option.some.injEq] at hc
  subst hc
  exact⟨trivial,rfl,rfl,hk,fun _ _=>rfl⟩
 |o::xs,ks,ks',st,hc,hk,ho=>by
  have one:∀(d:Nat) (v:z0a) (ks1:List Nat),o.dst=some d→okA E o st→z9a E o st=⟨st.org,(d,v)::st.env,st.box⟩→z2ed b ks1 xs=some ks'→(∀s∈ks1,s=d→v=bo b)→(∀s∈ks1,s≠d→s∈ks)→z5t E (o::xs) st∧z4Id b ks' (wrT (o::xs)) st (z8I E (o::xs) st):=by
   intro d v ks1 hd hok hst hc1 h1 h2
   have hg:∀s,ASt.get ⟨st.org,(d,v)::st.env,st.box⟩ s=if s=d then v else st.get s:=fun s=>z7kd _ _ _ _ _ _
   obtain⟨k1,k2⟩:=z8Ec E b xs ks1 ks' ⟨st.org,(d,v)::st.env,st.box⟩ hc1 (fun s hs=>by
    rw[hg]
    split
    ·rename_i e;exact h1 s hs e
    ·rename_i e;exact hk s (h2 s hs e)) (fun s hs=>ho s (by simp only[wrT,List.flatMap_cons,List.mem_append];exact .inr hs))
   refine⟨⟨hok,by rw[hst];exact k1⟩,?_⟩
   show z4Id b ks' (wrT (o::xs)) st (z8I E xs (z9a E o st))
   rw[hst]
   refine⟨k2.org,k2.box,k2.val,fun s hs=> ?_⟩
   simp only[wrT,List.flatMap_cons,List.mem_append,not_or] at hs
   rw[k2.same s hs.2,hg,if_neg]
   intro e
   apply hs.1
   rw[hd,e]
   simp
  have hW:∀d,o.dst=some d→o.op.wrS=[]→∀s∈o.W,lk st.org s=none:=fun d hd hw s hs=>by
   apply ho
   simp only[z6a.W,hd,hw,List.append_nil,Option.toList_some,List.mem_singleton] at hs
   simp only[wrT,List.flatMap_cons,List.mem_append,hd,hs]
   exact .inl (by simp)
  unfold z2ed at hc
  split at hc
  ·cases xs<;>simp at*
  ·rename_i ks0 d t w op xs0 e
   simp only[List.cons.injEq] at e
   obtain⟨rfl,rfl⟩:=e
   split at hc
   ·rename_i hh
    simp only[Bool.and_eq_true,List.contains_eq_mem,decide_eq_true_eq,bne_iff_ne,List.isEmpty_iff] at hh
    obtain⟨⟨h1,h2⟩,h3⟩:=hh
    have hv:=hk t h1
    have hgate:z4G (st.get t) w=false:=by rw[hv,z3na];exact beq_eq_false_iff_ne.2 (Ne.symm h2)
    refine one d z7j _ rfl ⟨hW d rfl h3,.inl (by rw[hv];trivial),fun e=>by rw[hgate] at e;cases e⟩ ?_ hc ?_ ?_
    ·simp only[z9a,hgate,Bool.false_eq_true,if_false,Option.toList_some,List.map_cons,List.map_nil,List.cons_append,List.nil_append]
    ·intro s hs e
     simp[e] at hs
    ·intro s hs e
     simp only[List.mem_filter] at hs
     exact hs.1
   ·cases hc
  ·rename_i ks0 d t xs0 e
   simp only[List.cons.injEq] at e
   obtain⟨rfl,rfl⟩:=e
   split at hc
   ·rename_i hh
    simp only[List.contains_eq_mem,decide_eq_true_eq] at hh
    have hv:=hk t hh
    refine one d (bo b) _ rfl ⟨hW d rfl rfl,trivial⟩ ?_ hc (fun _ _ _=>rfl) (fun s hs e=>by simpa[e] using hs)
    simp only[z9a,eff,arg,hv,Option.toList_some,List.map_cons,List.map_nil,List.cons_append,List.nil_append]
    rfl
   ·cases hc
  ·rename_i ks0 d t x y xs0 e
   simp only[List.cons.injEq] at e
   obtain⟨rfl,rfl⟩:=e
   split at hc
   ·rename_i hh
    simp only[Bool.and_eq_true,List.contains_eq_mem,decide_eq_true_eq] at hh
    obtain⟨⟨h1,rfl⟩,rfl⟩:=hh
    have hv:=hk t h1
    refine one d (bo true) _ rfl ⟨hW d rfl rfl,?_⟩ ?_ hc (fun _ _ _=>rfl) (fun s hs e=>by simpa[e] using hs)
    ·simp only[okp,arg,hv];trivial
    ·simp only[z9a,eff,arg,hv,Option.toList_some,List.map_cons,List.map_nil,List.cons_append,List.nil_append]
     rfl
   ·cases hc
  ·rename_i ks0 d t y x xs0 e
   simp only[List.cons.injEq] at e
   obtain⟨rfl,rfl⟩:=e
   split at hc
   ·rename_i hh
    simp only[Bool.and_eq_true,List.contains_eq_mem,decide_eq_true_eq,Bool.not_eq_true'] at hh
    obtain⟨⟨h1,rfl⟩,rfl⟩:=hh
    have hv:=hk t h1
    refine one d (bo false) _ rfl ⟨hW d rfl rfl,?_⟩ ?_ hc (fun _ _ _=>rfl) (fun s hs e=>by simpa[e] using hs)
    ·simp only[okp,arg,hv];trivial
    ·simp only[z9a,eff,arg,hv,Option.toList_some,List.map_cons,List.map_nil,List.cons_append,List.nil_append]
     rfl
   ·cases hc
  ·cases hc
theorem z7wd (f:Nat→z0a) (keep:List Nat) (o:List (Nat×z0a)) (bx:List (Nat×Option (List z0a))) {x:Nat} (hx:x∈keep):ASt.get ⟨o,keep.map fun x=>(x,f x),bx⟩ x=f x:=by
 have h:=z8ta f x keep
 rw[if_pos hx] at h
 simp only[ASt.get,h]
theorem z9qa {E:Env} {keep:List Nat} {gs:List z0h} {Q:z5c→ASt→Prop} {xs ys:List z6a} {st:ASt} (h:∀T,T=ys→z0R E keep gs Q (xs++T) st):z0R E keep gs Q (xs++ys) st:=h ys rfl
theorem z7Kd (E:Env) (id:Nat) (b:z1c) (Q:z5c→ASt→Prop) (s:ASt):awp E (.block id b) Q s=awp E b (z9v id Q) s:=rfl
theorem z0Ma {E:Env} {Q:z5c→ASt→Prop} {s:ASt} {a b:z1c} (h:∀B,B=b→awp E (.seq a B) Q s):awp E (.seq a b) Q s:=h b rfl
def vdG (b:Bool) (d:Nat) (st:ASt) (x:Nat):z0a:=if x=d then bo b else st.get x
@[simp] theorem vdG_eq (b:Bool) (d:Nat) (st:ASt) (x:Nat):vdG b d st x=if x=d then bo b else st.get x:=rfl
theorem z6mc (f:Nat→z0a):∀l:List Nat,z3n f l=l.map fun s=>(s,f s)
 |[]=>rfl
 |s::l=>by simp only[z3n,List.map_cons,z6mc f l]
theorem z2qa {E:Env} {keep:List Nat} {gs:List z0h} {Q:z5c→ASt→Prop} {xs:List z6a} {o e:List (Nat×z0a)} {bx:List (Nat×Option (List z0a))} (b:Bool) (s d:Nat) (hs:ASt.get ⟨o,e,bx⟩ s=bo b)
  (hc:((z2ed b [s] xs).any fun ks=>ks.contains d&&keep.all fun x=>x==d|| !(wrT xs).contains x)=true) (ho:((wrT xs).all fun x=>(lk o x).isNone)=true)
  (h:z0R E keep gs Q [] ⟨o,z3n (vdG b d ⟨o,e,bx⟩) keep,bx⟩):z0R E keep gs Q xs ⟨o,e,bx⟩:=by
 rw[z6mc] at h
 simp only[vdG] at h
 simp only[Option.any_eq_true,Bool.and_eq_true,List.contains_eq_mem,decide_eq_true_eq,List.all_eq_true,Bool.or_eq_true,beq_iff_eq,Bool.not_eq_true',decide_eq_false_iff_not] at hc
 obtain⟨ks,h1,h2,h3⟩:=hc
 simp only[List.all_eq_true,Option.isNone_iff_eq_none] at ho
 obtain⟨k1,k2⟩:=z8Ec E b xs [s] ks ⟨o,e,bx⟩ h1 (fun x hx=>by rw[List.mem_singleton.1 hx];exact hs) ho
 rw[z7v] at h⊢
 simp only[z5t,z8I,true_and] at h
 refine⟨k1,?_⟩
 have:z2o keep (z8I E xs ⟨o,e,bx⟩)=z2o keep ⟨o,keep.map fun x=>(x,if x=d then bo b else ASt.get ⟨o,e,bx⟩ x),bx⟩:=by
  unfold z2o
  rw[k2.org,k2.box]
  simp only[ASt.mk.injEq,true_and,and_true]
  refine List.map_congr_left fun x hx=> ?_
  have hg:ASt.get ⟨o,keep.map fun x=>(x,if x=d then bo b else ASt.get ⟨o,e,bx⟩ x),bx⟩ x=if x=d then bo b else ASt.get ⟨o,e,bx⟩ x:=by
   exact z7wd _ keep o bx hx
  rw[hg]
  rcases h3 x hx with rfl|h4
  ·rw[if_pos rfl,k2.val x h2]
  ·split
   ·rename_i e;rw[e,k2.val d h2]
   ·rw[k2.same x h4]
 rw[this]
 exact h
end Go.Abs
end

section
namespace Go.Abs
set_option maxRecDepth 100000
def z4ud:z1f:=⟨fun ds=>∃m:z3P,m.ok∧ds=[.agg (z5Ma m)],fun ds=>bo (z8zb (z0md (gCs (nth ds 0))))⟩
theorem z9Cd {m:z3P} (h:m.ok):z4ud.pre [.agg (z5Ma m)]=True:=eq_true ⟨m,h,rfl⟩
theorem z9zc (m:z3P):z4ud.post [.agg (z5Ma m)]=bo (z8zb m):=by
 show bo (z8zb (z0md (z5Ma m)))=_
 rw[z9Hb]
set_option maxHeartbeats 4000000 in
theorem z05d (E:Env) (h295:E.G 295=z7qd):∀ds,z4ud.pre ds→ds.length=z1Da.n∧awp E z1Da.body (z6va z1Da.res (z4ud.post ds)) (z4H z1Da.wr ds):=by
 rintro _ ⟨m,hm,rfl⟩
 rw[z9zc]
 have hd:=hm.2.2.2.2.2.2.2
 have hl:=z3Ja hd
 obtain⟨Z,hZ⟩:∃Z,Z=z8zb m:=⟨_,rfl⟩
 rw[←hZ]
 refine⟨rfl,?_⟩
 simp only[z1Da]
 refine z1g fun Q9 hQ9=> ?_
 refine z0Ma fun B hB=> ?_
 simp(maxSteps:=1000000) (disch:=first|omega|simp;done|simp;omega) [z7G,z8pa,z7pa,hl,z3zb,z3Mb]
 rw[hB];clear hB
 rw[z4ia]
 refine z1g fun Q1 hQ1=> ?_
 rw[z1W]
 refine z9qa fun T hT=> ?_
 simp(maxSteps:=1000000) (disch:=first|omega|simp;done|simp;omega) [z7G,z8pa,z7pa,z6jb,hl,h295]
 by_cases c1:inR m.id 1 2147483647=true
 rotate_left
 ·refine z2qa false 6 2 (by simp[c1]) (by rw[hT];kernel_rfl) (by rw[hT];kernel_rfl) ?_
  have hz:Z=false:=by rw[hZ];simp[z8zb,z2jc,z0yc,z2Zb,c1]
  simp(maxSteps:=1000000) (disch:=first|omega|simp;done|simp;omega) [z7G,z8pa,z7pa,hQ1,hQ9,hz]
 rw[hT];clear hT
 refine z9qa fun T hT=> ?_
 simp(maxSteps:=1000000) (disch:=first|omega|simp;done|simp;omega) [z7G,z8pa,z7pa,z2ib,hl,h295,c1]
 by_cases c2:inR m.ver 1 2147483647=true
 rotate_left
 ·refine z2qa false 11 2 (by simp[c2]) (by rw[hT];kernel_rfl) (by rw[hT];kernel_rfl) ?_
  have hz:Z=false:=by rw[hZ];simp[z8zb,z2jc,z0yc,z2Zb,c2]
  simp(maxSteps:=1000000) (disch:=first|omega|simp;done|simp;omega) [z7G,z8pa,z7pa,hQ1,hQ9,hz]
 rw[hT];clear hT
 refine z9qa fun T hT=> ?_
 simp(maxSteps:=1000000) (disch:=first|omega|simp;done|simp;omega) [z7G,z8pa,z7pa,z6ib,hl,h295,c1,c2]
 by_cases c3:inR m.par 0 2147483647=true
 rotate_left
 ·refine z2qa false 16 2 (by simp[c3]) (by rw[hT];kernel_rfl) (by rw[hT];kernel_rfl) ?_
  have hz:Z=false:=by rw[hZ];simp[z8zb,z2jc,z0yc,z2Zb,c3]
  simp(maxSteps:=1000000) (disch:=first|omega|simp;done|simp;omega) [z7G,z8pa,z7pa,hQ1,hQ9,hz]
 rw[hT];clear hT
 refine z9qa fun T hT=> ?_
 simp(maxSteps:=1000000) (disch:=first|omega|simp;done|simp;omega) [z7G,z8pa,z7pa,z8gb,hl,h295,c1,c2,c3]
 by_cases c4:inR m.ty 0 31=true
 rotate_left
 ·refine z2qa false 21 2 (by simp[c4]) (by rw[hT];kernel_rfl) (by rw[hT];kernel_rfl) ?_
  have hz:Z=false:=by rw[hZ];simp[z8zb,z2jc,z0yc,z2Zb,c4]
  simp(maxSteps:=1000000) (disch:=first|omega|simp;done|simp;omega) [z7G,z8pa,z7pa,hQ1,hQ9,hz]
 rw[hT];clear hT
 refine z9qa fun T hT=> ?_
 simp(maxSteps:=1000000) (disch:=first|omega|simp;done|simp;omega) [z7G,z8pa,z7pa,z4ib,hl,h295,c1,c2,c3,c4]
 by_cases c5:z8J m.uses 956=0
 rotate_left
 ·refine z2qa false 27 2 (by simp[c5]) (by rw[hT];kernel_rfl) (by rw[hT];kernel_rfl) ?_
  have hz:Z=false:=by rw[hZ];simp[z8zb,z2jc,z0yc,z2Zb,c5]
  simp(maxSteps:=1000000) (disch:=first|omega|simp;done|simp;omega) [z7G,z8pa,z7pa,hQ1,hQ9,hz]
 rw[hT];clear hT
 refine z9qa fun T hT=> ?_
 simp(maxSteps:=1000000) (disch:=first|omega|simp;done|simp;omega) [z7G,z8pa,z7pa,z6hb,hl,h295,c1,c2,c3,c4,c5]
 by_cases c6:inR m.beg 0 m.fin=true
 rotate_left
 ·refine z2qa false 34 2 (by simp[c6]) (by rw[hT];kernel_rfl) (by rw[hT];kernel_rfl) ?_
  have hz:Z=false:=by rw[hZ];simp[z8zb,z2jc,z0yc,z2Zb,c6]
  simp(maxSteps:=1000000) (disch:=first|omega|simp;done|simp;omega) [z7G,z8pa,z7pa,hQ1,hQ9,hz]
 rw[hT];clear hT
 by_cases c7:inR m.fin 0 1099511627776=true
 rotate_left
 ·have hz:Z=false:=by rw[hZ];simp[z8zb,z2jc,z0yc,z2Zb,c7]
  simp(maxSteps:=1000000) (disch:=first|omega|simp;done|simp;omega) [z7G,z8pa,z7pa,hQ1,hQ9,hz,z5Xa,hl,h295,c1,c2,c3,c4,c5,c6,c7]
 have hz:Z=true:=by rw[hZ];simp[z8zb,z2jc,z0yc,z2Zb,c1,c2,c3,c4,c5,c6,c7]
 simp(maxSteps:=1000000) (disch:=first|omega|simp;done|simp;omega) [z7G,z8pa,z7pa,z5Xa,hl,h295,c1,c2,c3,c4,c5,c6,c7,hQ1,hQ9,hz]
def z0Nd:z0a:= .fn 297 [] [.ep [.fn 296 [] []]]
def z8Kd:z1f:=⟨fun ds=>∃m:z3P,m.ok∧ds=[.agg (z5Ma m),.ep [.fn 296 [] []]],fun ds=>bo (!z8zb (z0md (gCs (nth ds 0))))⟩
theorem z1Xc {m:z3P} (h:m.ok):z8Kd.pre [.agg (z5Ma m),.ep [.fn 296 [] []]]=True:=eq_true ⟨m,h,rfl⟩
theorem z0gc (m:z3P):z8Kd.post [.agg (z5Ma m),.ep [.fn 296 [] []]]=bo (!z8zb m):=by
 show bo (!z8zb (z0md (z5Ma m)))=_
 rw[z9Hb]
theorem z70d (m:z3P):(∀c∈z5Ma m,z8a c)=True:=eq_true fun c hc=>(z5Vb c hc).2
theorem z0me (m:z3P):(∀c∈z5Ma m,z5b c=false)=True:=eq_true fun c hc=>by
 rcases List.mem_append.1 hc with h|h
 ·simp only[List.mem_cons,List.not_mem_nil,or_false] at h
  rcases h with rfl|rfl|rfl|rfl|rfl|rfl|rfl|rfl<;>rfl
 ·simp only[bys,List.mem_map] at h
  obtain⟨x,_,rfl⟩:=h
  rfl
theorem tk_m {m:z3P} (h:m.dig.length=16):(z5Ma m).take 24=z5Ma m:=List.take_of_length_le (by rw[z3Ja h];exact Nat.le_refl _)
@[simp] theorem z52d (m:z3P):z8b (z5Ma m)=true:=(z4i _).2 fun c hc=>(z5Vb c hc).1
@[simp] theorem z91d (m:z3P):z6b (z5Ma m)=[]:=by simp[z5Ma,z6b]
theorem z16d (E:Env) (h296:E.G 296=z4ud):∀ds,z8Kd.pre ds→ds.length=z2Da.n∧awp E z2Da.body (z6va z2Da.res (z8Kd.post ds)) (z4H z2Da.wr ds):=by
 rintro _ ⟨m,hm,rfl⟩
 rw[z0gc]
 have hd:=hm.2.2.2.2.2.2.2
 have hl:=z3Ja hd
 simp(maxSteps:=1000000) (disch:=first|omega|simp;done|simp;omega) [z7G,z8pa,z7pa,z2Da,h296,z9Cd hm,z9zc,hl,z70d,z0me,tk_m hd,z9f]
/-! ### the first key that .. -/
def z5gd (p:z3P→Bool) (l:List z3P):Int:=if l.findIdx p<l.length then(l.findIdx p:Int) else-1
def atM (l:List z3P) (i:Nat):z3P:=l.getD i mad0
theorem z4sb {l:List z3P} {i:Nat} (h:i<l.length):atM l i=l[i]:=by simp[atM,List.getD,List.getElem?_eq_getElem h]
theorem z3Yb {l:List z3P} {i:Nat} (h:i<l.length):atM l i∈l:=by rw[z4sb h];exact List.getElem_mem h
theorem z2yd {p:z3P→Bool} {l:List z3P} {i:Nat} (hi:i<l.length) (h0:∀j<i,p (atM l j)=false) (h:p (atM l i)=true):z5gd p l=i:=by
 have e:l.findIdx p=i:=by
  apply Nat.le_antisymm
  ·apply Nat.le_of_not_lt
   intro hlt
   have:=List.not_of_lt_findIdx (p:=p) (xs:=l) hlt
   rw[z4sb hi] at h
   rw[h] at this
   cases this
  ·apply Nat.le_of_not_lt
   intro hlt
   have hl:l.findIdx p<l.length:=by omega
   have h1:p l[l.findIdx p]=true:=List.findIdx_getElem (w:=hl)
   have h2:=h0 _ hlt
   rw[z4sb hl,h1] at h2
   cases h2
 rw[z5gd,e,if_pos hi]
theorem z2Bd {p:z3P→Bool} {l:List z3P} (h0:∀j<l.length,p (atM l j)=false):z5gd p l= -1:=by
 rw[z5gd,if_neg]
 intro hl
 have h1:p l[l.findIdx p]=true:=List.findIdx_getElem (w:=hl)
 have h2:=h0 _ hl
 rw[z4sb hl,h1] at h2
 cases h2
theorem z4fd (p:z3P→Bool) (l:List z3P):decide (0≤z5gd p l)=l.any p:=by
 have:l.findIdx p<l.length↔l.any p=true:=by rw[List.findIdx_lt_length,List.any_eq_true]
 unfold z5gd
 cases h:l.any p
 ·rw[if_neg (fun e=>by rw[this.1 e] at h;cases h)];rfl
 ·rw[if_pos (this.2 h)];simp
theorem z6Zb {l:List z3P} (h:z59a l) {i:Nat} (hi:i<l.length):((z0Ca l).drop (i*24)).take 24=z5Ma (atM l i):=by
 have e1:=z9sb (enc:=z5Ma) (P:=z6uc) (w:=24) (fun a ha=>z3Ja ha) l i (z1Ca h)
 have hd:=z1Ca h _ (List.getElem_mem hi)
 rw[show z0Ca l=l.flatMap z5Ma from rfl,e1,List.drop_eq_getElem_cons hi,List.flatMap_cons,List.take_left' (z3Ja hd),z4sb hi]
theorem z3vd {l:List z3P} (h:z59a l) {i:Nat} (hi:i<l.length):i*24+24≤(z0Ca l).length:=by
 rw[z4Va (z1Ca h)]
 omega
def z4nc:z1f:=⟨fun ds=>∃(nl:Option Bool) (l:List z3P),z59a l∧l.length≤1000000∧ds=[.sl .plain nl l.length (z0Ca l),z0Nd],fun ds=>i64 (z5gd (fun m=> !z8zb m) (z94b (gNn (nth ds 0)) (gCs (nth ds 0))))⟩
theorem z1Gc {nl:Option Bool} {l:List z3P} (h:z59a l) (h1:l.length≤1000000):z4nc.pre [.sl .plain nl l.length (z0Ca l),.fn 297 [] [.ep [.fn 296 [] []]]]=True:=eq_true ⟨nl,l,h,h1,rfl⟩
theorem z9mc (nl:Option Bool) {l:List z3P} (h:z59a l):z4nc.post [.sl .plain nl l.length (z0Ca l),.fn 297 [] [.ep [.fn 296 [] []]]]=i64 (z5gd (fun m=> !z8zb m) l):=by
 show i64 (z5gd (fun m=> !z8zb m) (z94b l.length (z0Ca l)))=_
 rw[z9Ib (z1Ca h)]
set_option maxHeartbeats 4000000 in
theorem z5Id (E:Env) (h297:E.G 297=z8Kd):∀ds,z4nc.pre ds→ds.length=z6qa.n∧awp E z6qa.body (z6va z6qa.res (z4nc.post ds)) (z4H z6qa.wr ds):=by
 rintro _ ⟨nl,l,h16,hl,rfl⟩
 unfold z0Nd
 rw[z9mc nl h16]
 have hlen:=z4Va (z1Ca h16)
 simp(maxSteps:=1000000) (disch:=first|omega|simp;done|simp;omega) [z7G,z8pa,z7pa,z6qa]
 refine z1g fun Q0 hQ0=> ?_
 refine z2v (fun i:Nat=>⟨[(0,.sl .plain nl l.length (z0Ca l)),(1,.fn 297 [] [.ep [.fn 296 [] []]])],[(7,i64 l.length),(8,i64 i)],[]⟩)
  (fun i=>l.length-i) (fun i=>i≤l.length∧∀j<i,(!z8zb (atM l j))=false) 0 (by simp) (by simp) fun i hi=> ?_
 obtain⟨hi,he⟩:=hi
 refine z1g fun Q1 hQ1=> ?_
 by_cases h1:i<l.length
 ·have hm:=h16 _ (z3Yb h1)
  have ha:=z6Zb h16 h1
  have hle:=z3vd h16 h1
  have hle':i*24≤l.length*24:=by omega
  have hle2:24≤l.length*24-i*24:=by omega
  cases h2:z8zb (atM l i)
  ·have hR:=z2yd (p:=fun m=> !z8zb m) h1 he (by rw[h2];rfl)
   simp(maxSteps:=1000000) (disch:=first|omega|simp;done|simp;omega) [z7G,z8pa,z7pa,z3sa,z8ua,kT,kF,dT,dF,h1,ha,hlen,hle',hle2,h297,z1Xc hm,z0gc,h2,z9f,hQ1,hQ0,hR]
  ·simp(maxSteps:=1000000) (disch:=first|omega|simp;done|simp;omega) [z7G,z8pa,z7pa,z3sa,z8ua,kT,kF,dT,dF,h1,ha,hlen,hle',hle2,h297,z1Xc hm,z0gc,h2,z9f,hQ1]
   refine⟨i+1,by omega,⟨by omega,fun j hj=> ?_⟩,by omega⟩
   rcases Nat.lt_or_eq_of_le (Nat.lt_succ_iff.1 hj) with h|h
   ·simpa using he j h
   ·rw[h];simpa using h2
 ·have hl':i=l.length:=by omega
  have hR:=z2Bd (p:=fun m=> !z8zb m) (l:=l) (fun j hj=>he j (by omega))
  simp(maxSteps:=1000000) (disch:=first|omega|simp;done|simp;omega) [z7G,z8pa,z7pa,z3sa,kT,kF,dT,dF,h1,hQ1,hQ0,z2Aa,hR]
def z1wc:z1f:=⟨z4nc.pre,fun ds=>bo (!(z94b (gNn (nth ds 0)) (gCs (nth ds 0))).all z8zb)⟩
theorem z6ec {nl:Option Bool} {l:List z3P} (h:z59a l) (h1:l.length≤1000000):z1wc.pre [.sl .plain nl l.length (z0Ca l),.fn 297 [] [.ep [.fn 296 [] []]]]=True:=z1Gc h h1
theorem z3Hb (nl:Option Bool) {l:List z3P} (h:z59a l):z1wc.post [.sl .plain nl l.length (z0Ca l),.fn 297 [] [.ep [.fn 296 [] []]]]=bo (!l.all z8zb):=by
 show bo (!(z94b l.length (z0Ca l)).all z8zb)=_
 rw[z9Ib (z1Ca h)]
theorem z6Ed (E:Env) (h313:E.G 313=z4nc):∀ds,z1wc.pre ds→ds.length=z1qa.n∧awp E z1qa.body (z6va z1qa.res (z1wc.post ds)) (z4H z1qa.wr ds):=by
 rintro _ ⟨nl,l,h16,hl,rfl⟩
 unfold z0Nd
 rw[z3Hb nl h16,List.all_eq_not_any_not,Bool.not_not,←z4fd]
 simp(maxSteps:=1000000) (disch:=first|omega|simp;done|simp;omega) [z7G,z8pa,z7pa,z1qa,h313,z1Gc h16 hl,z9mc nl h16,z3Jb,z8e,z1k]
end Go.Abs
end

section
namespace Go.Abs
set_option maxRecDepth 100000
theorem z5kb (n lo hi:Int):inR n lo hi=true↔lo≤n∧n≤hi:=by simp[inR]
theorem z1Mb {x:z2n} (h:okE x=true):0≤x.time∧x.time≤1099511627776∧0≤x.req∧x.req≤2147483647∧1≤x.mode∧x.mode≤5∧x.made.length≤4096∧x.gone.length≤4096:=by
 simp only[okE,z5kb,Bool.and_eq_true,decide_eq_true_eq] at h
 simp only[z2jc,z0yc] at h
 omega
theorem z1sb:z9u.small:=by
 refine⟨⟨?_,?_,?_,?_,?_,?_,?_⟩,by simp[z9u],by simp[z9u]⟩<;>simp[z9u,z2e]
theorem z5Mc {t m:Int} (ht:z2e t) (hm:z2e m):(z1kc t m).small:=by
 refine⟨⟨ht,by simp[z1kc,z2e],by simp[z1kc,z2e],hm,z1sb.1,rfl,fun _ h=>(by cases h),fun _ h=>(by cases h)⟩,z1sb,by simp[z1kc],by simp[z1kc]⟩
set_option maxHeartbeats 8000000 in
theorem z6Fd (E:Env) (h295:E.G 295=z7qd) (h298:E.G 298=z1wc) (h294:E.G 294=z8Ed) (h299:E.G 299=z6Sb) (h293:E.G 293=z7Jd):∀ds,z6cc.pre ds→ds.length=z3Ia.n∧awp E z3Ia.body (z6va z3Ia.res (z6cc.post ds)) (z4H z3Ia.wr ds):=by
 rintro _ ⟨nc,nm,ng,x,hx,rfl⟩
 rw[z0Hb hx]
 have hm16:=hx.1.2.2.2.2.2.2.1
 have hd:=hx.1.2.2.2.2.2.1
 have hml:=hx.2.2.1
 have hgl:=hx.2.2.2
 have hmp:=z5Mc hx.1.1 hx.1.2.2.2.1
 have hl:=z5Oa (nc:=nc) (nm:=nm) (ng:=ng) hd
 have htk:=z4Pc (nc:=nc) (nm:=nm) (ng:=ng) hd
 have h28:=z6Ib (nc:=nc) (nm:=nm) (ng:=ng) hd
 have h29:=z1Ib (nc:=nc) (nm:=nm) (ng:=ng) hd
 obtain⟨Z,hZ⟩:∃Z,Z=okE x:=⟨_,rfl⟩
 rw[←hZ]
 refine⟨rfl,?_⟩
 simp only[z3Ia]
 refine z1g fun Q9 hQ9=> ?_
 refine z0Ma fun B hB=> ?_
 simp(maxSteps:=1000000) (disch:=first|omega|simp;done|simp;omega) [z7G,z8pa,z7pa,hl]
 rw[hB];clear hB
 rw[z4ia]
 refine z1g fun Q1 hQ1=> ?_
 rw[z4ia]
 refine z1g fun Q2 hQ2=> ?_
 rw[z1W]
 refine z9qa fun T hT=> ?_
 simp(maxSteps:=1000000) (disch:=first|omega|simp;done|simp;omega) [z7G,z8pa,z7pa,z5tb,hl,h295,h28,h29]
 by_cases c1:inR x.time 0 1099511627776=true
 rotate_left
 ·refine z2qa true 8 31 (by simp[c1]) (by rw[hT];kernel_rfl) (by rw[hT];kernel_rfl) ?_
  have hz:Z=false:=by
   cases hc:okE x
   ·rw[hZ,hc]
   ·have hq:=z1Mb hc
    exfalso
    first|omega|(have:=mt (z5kb _ _ _).2 c1;omega)
  simp(maxSteps:=1000000) (disch:=first|omega|simp;done|simp;omega) [z7G,z8pa,z7pa,hQ2,hQ1,hQ9,kT,hz]
 rw[hT];clear hT
 refine z9qa fun T hT=> ?_
 simp(maxSteps:=1000000) (disch:=first|omega|simp;done|simp;omega) [z7G,z8pa,z7pa,z1ub,hl,h295,h28,h29,c1]
 by_cases c2:inR x.req 0 2147483647=true
 rotate_left
 ·refine z2qa true 14 31 (by simp[c2]) (by rw[hT];kernel_rfl) (by rw[hT];kernel_rfl) ?_
  have hz:Z=false:=by
   cases hc:okE x
   ·rw[hZ,hc]
   ·have hq:=z1Mb hc
    exfalso
    first|omega|(have:=mt (z5kb _ _ _).2 c2;omega)
  simp(maxSteps:=1000000) (disch:=first|omega|simp;done|simp;omega) [z7G,z8pa,z7pa,hQ2,hQ1,hQ9,kT,hz]
 rw[hT];clear hT
 refine z9qa fun T hT=> ?_
 simp(maxSteps:=1000000) (disch:=first|omega|simp;done|simp;omega) [z7G,z8pa,z7pa,z0ub,hl,h295,h28,h29,c1,c2]
 by_cases c3:inR x.mode 1 5=true
 rotate_left
 ·refine z2qa true 20 31 (by simp[c3]) (by rw[hT];kernel_rfl) (by rw[hT];kernel_rfl) ?_
  have hz:Z=false:=by
   cases hc:okE x
   ·rw[hZ,hc]
   ·have hq:=z1Mb hc
    exfalso
    first|omega|(have:=mt (z5kb _ _ _).2 c3;omega)
  simp(maxSteps:=1000000) (disch:=first|omega|simp;done|simp;omega) [z7G,z8pa,z7pa,hQ2,hQ1,hQ9,kT,hz]
 rw[hT];clear hT
 refine z9qa fun T hT=> ?_
 simp(maxSteps:=1000000) (disch:=first|omega|simp;done|simp;omega) [z7G,z8pa,z7pa,z6tb,hl,h295,h28,h29,c1,c2,c3]
 by_cases n4:4096<(x.made.length:Int)
 ·refine z2qa true 26 31 (by simp[n4]) (by rw[hT];kernel_rfl) (by rw[hT];kernel_rfl) ?_
  have hz:Z=false:=by
   cases hc:okE x
   ·rw[hZ,hc]
   ·have hq:=z1Mb hc
    exfalso
    first|omega|(have:=mt (z5kb _ _ _).2 n4;omega)
  simp(maxSteps:=1000000) (disch:=first|omega|simp;done|simp;omega) [z7G,z8pa,z7pa,hQ2,hQ1,hQ9,kT,hz]
 rw[hT];clear hT
 by_cases n5:4096<(x.gone.length:Int)
 ·have hz:Z=false:=by
   cases hc:okE x
   ·rw[hZ,hc]
   ·have hq:=z1Mb hc
    exfalso
    first|omega|(have:=mt (z5kb _ _ _).2 n5;omega)
  simp(maxSteps:=1000000) (disch:=first|omega|simp;done|simp;omega) [z7G,z8pa,z7pa,hQ2,hQ1,hQ9,kT,hz,z98a,hl,h295,h28,h29,c1,c2,c3,n4,n5]
 simp(maxSteps:=1000000) (disch:=first|omega|simp;done|simp;omega) [z7G,z8pa,z7pa,z98a,hl,h295,h28,h29,c1,c2,c3,n4,n5,hQ2,hQ1,kF]
 have q4:x.made.length≤4096:=by omega
 have q5:x.gone.length≤4096:=by omega
 cases c6:x.made.all z8zb
 ·have hz:Z=false:=by simp only[hZ,okE,c6];simp
  simp(maxSteps:=1000000) (disch:=first|omega|simp;done|simp;omega) [z7G,z8pa,z7pa,z3Qa,h298,z6ec hm16 hml,z3Hb nm hm16,z3Jb,z8e,z1k,hl,c6,h28,kT,kF,hQ9,hz]
 have hzz:Z=if x.kind=0 then z5Qa x (z1kc x.time x.mode) else inR x.kind 1 27&&(x.cmd.kind==x.kind)&&(!z0Kc x.kind||decide (x.cmd.data=[])):=by
  simp only[hZ,okE,c6,c3,q4,q5,z0yc,z2jc,c1,c2,decide_true,Bool.true_and,Bool.and_true]
 by_cases hk:x.kind=0
 ·rw[if_pos hk] at hzz
  simp(maxSteps:=1000000) (disch:=first|omega|simp;done|simp;omega) [z7G,z8pa,z7pa,z3Qa,z08a,h298,z6ec hm16 hml,z3Hb nm hm16,z3Jb,z8e,z1k,hl,htk,c6,h28,kT,kF,hk,h294,h299,z6Ec hx hmp,z4Jb hx hmp,hQ9,hzz]
 rw[if_neg hk] at hzz
 have hk':(x.kind==0)=false:=by simpa using hk
 simp(maxSteps:=1000000) (disch:=first|omega|simp;done|simp;omega) [z7G,z8pa,z7pa,z3Qa,z08a,h298,z6ec hm16 hml,z3Hb nm hm16,z3Jb,z8e,z1k,hl,c6,h28,kT,kF,hk,hk']
 simp only[z4ub]
 rw[z4ia]
 refine z1g fun Q3 hQ3=> ?_
 rw[z1W]
 by_cases c7:inR x.kind 1 27=true
 rotate_left
 ·have hz:Z=false:=by rw[hzz];simp[c7]
  simp(maxSteps:=1000000) (disch:=first|omega|simp;done|simp;omega) [z7G,z8pa,z7pa,z19a,z1Qa,z8Ja,hl,h295,c7,hQ3,hQ9,hz]
 refine z9qa fun T hT=> ?_
 simp(maxSteps:=1000000) (disch:=first|omega|simp;done|simp;omega) [z7G,z8pa,z7pa,z19a,hl,h295,c7]
 rw[hT];clear hT
 by_cases c8:x.cmd.kind=x.kind
 rotate_left
 ·have hz:Z=false:=by rw[hzz];simp[c8]
  have c8':(x.cmd.kind==x.kind)=false:=by simpa using c8
  simp(maxSteps:=1000000) (disch:=first|omega|simp;done|simp;omega) [z7G,z8pa,z7pa,z1Qa,z8Ja,hl,c7,c8',hQ3,hQ9,hz]
 refine z9qa fun T hT=> ?_
 simp(maxSteps:=1000000) (disch:=first|omega|simp;done|simp;omega) [z7G,z8pa,z7pa,z1Qa,hl,h295,c7,c8]
 rw[hT];clear hT
 cases c9:z0Kc x.kind
 ·have hz:Z=true:=by rw[hzz];simp[c7,c8,c9]
  simp(maxSteps:=1000000) (disch:=first|omega|simp;done|simp;omega) [z7G,z8pa,z7pa,z8Ja,h293,hl,c7,c8,c9,hQ3,hQ9,hz]
 have hz:Z=decide (x.cmd.data=[]):=by rw[hzz];simp[c7,c8,c9]
 simp(maxSteps:=1000000) (disch:=first|omega|simp;done|simp;omega) [z7G,z8pa,z7pa,z8Ja,h293,hl,c7,c8,c9,hQ3,hQ9,hz]
end Go.Abs
end

section
namespace Go.Abs
set_option maxRecDepth 100000
theorem z2Dd {l:List UInt8} (h:l.length=16):∃a b c d e f g i j k m n o p q r,l=[a,b,c,d,e,f,g,i,j,k,m,n,o,p,q,r]:=by
 match l,h with
 |[a,b,c,d,e,f,g,i,j,k,m,n,o,p,q,r],_=>exact⟨a,b,c,d,e,f,g,i,j,k,m,n,o,p,q,r,rfl⟩
theorem eqM {x y:z3P} (hx:x.dig.length=16) (hy:y.dig.length=16):z8s kM (z5Ma x) (z5Ma y)=decide (x=y):=by
 obtain⟨x1,x2,x3,x4,x5,x6,x7,x8,xd⟩:=x
 obtain⟨y1,y2,y3,y4,y5,y6,y7,y8,yd⟩:=y
 simp only at hx hy
 obtain⟨a,b,c,d,e,f,g,i,j,k,m,n,o,p,q,r,rfl⟩:=z2Dd hx
 obtain⟨a',b',c',d',e',f',g',i',j',k',m',n',o',p',q',r',rfl⟩:=z2Dd hy
 have h8:∀u v:UInt8,((u.toNat:Int)==v.toNat)=(u==v):=fun u v=>by
  rw[Bool.eq_iff_iff,beq_iff_eq,beq_iff_eq]
  constructor
  ·intro h;exact UInt8.toNat_inj.1 (by omega)
  ·rintro rfl;rfl
 rw[Bool.eq_iff_iff]
 simp[kM,z8s,z3ee,z5Ma,bys,h8,z3P.mk.injEq]
theorem z2fe {x:z3P} (hx:x.dig.length=16):z6n kM (z5Ma x)=True:=by
 obtain⟨x1,x2,x3,x4,x5,x6,x7,x8,xd⟩:=x
 simp only at hx
 obtain⟨a,b,c,d,e,f,g,i,j,k,m,n,o,p,q,r,rfl⟩:=z2Dd hx
 refine eq_true ?_
 repeat' first|exact trivial|exact rfl|refine And.intro ?_ ?_
def z71b:z1f:=⟨fun ds=>∃(nl nl':Option Bool) (a b:List z3P),z59a a∧z59a b∧a.length≤1000000∧ds=[.sl .plain nl a.length (z0Ca a),.sl .plain nl' b.length (z0Ca b)],
 fun ds=>bo (decide (z94b (gNn (nth ds 0)) (gCs (nth ds 0))=z94b (gNn (nth ds 1)) (gCs (nth ds 1))))⟩
theorem z94c {nl nl':Option Bool} {a b:List z3P} (h:z59a a) (h':z59a b) (hl:a.length≤1000000):z71b.pre [.sl .plain nl a.length (z0Ca a),.sl .plain nl' b.length (z0Ca b)]=True:=eq_true ⟨nl,nl',a,b,h,h',hl,rfl⟩
theorem z18b (nl nl':Option Bool) {a b:List z3P} (h:z59a a) (h':z59a b):z71b.post [.sl .plain nl a.length (z0Ca a),.sl .plain nl' b.length (z0Ca b)]=bo (decide (a=b)):=by
 show bo (decide (z94b a.length (z0Ca a)=z94b b.length (z0Ca b)))=_
 rw[z9Ib (z1Ca h),z9Ib (z1Ca h')]
theorem z2Jd {a b:List z3P} (h:a.length=b.length) (he:a.take a.length=b.take a.length):a=b:=by
 rw[List.take_length,h,List.take_length] at he
 exact he
set_option maxHeartbeats 4000000 in
theorem z4ld (E:Env):∀ds,z71b.pre ds→ds.length=z2va.n∧awp E z2va.body (z6va z2va.res (z71b.post ds)) (z4H z2va.wr ds):=by
 rintro _ ⟨nl,nl',a,b,ha,hb,hl,rfl⟩
 rw[z18b nl nl' ha hb]
 by_cases h:a.length=b.length
 rotate_left
 ·have hz:decide (a=b)=false:=by simpa using fun e:a=b=>h (by rw[e])
  have h':¬((a.length:Int)=b.length):=by omega
  simp(maxSteps:=1000000) (disch:=first|omega|simp;done|simp;omega) [z7G,z8pa,z7pa,z2va,z0La,h',kT,kF,hz]
 have h':((a.length:Int)=b.length):=by omega
 have hla:=z4Va (z1Ca ha)
 have hlb:=z4Va (z1Ca hb)
 simp(maxSteps:=1000000) (disch:=first|omega|simp;done|simp;omega) [z7G,z8pa,z7pa,z2va,z0La,h',kT,kF]
 refine z1g fun Q0 hQ0=> ?_
 refine z2v (fun i:Nat=>⟨[(0,.sl .plain nl a.length (z0Ca a)),(1,.sl .plain nl' b.length (z0Ca b))],[(12,i64 a.length),(13,i64 i)],[]⟩)
  (fun i=>a.length-i) (fun i=>i≤a.length∧a.take i=b.take i) 0 (by simp[h']) (by simp) fun i hi=> ?_
 obtain⟨hi,he⟩:=hi
 refine z1g fun Q1 hQ1=> ?_
 by_cases h1:i<a.length
 ·have h3:i<b.length:=by omega
  have e1:=z6Zb ha h1
  have e2:=z6Zb hb h3
  have l1:24≤a.length*24-i*24:=by omega
  have l2:24≤b.length*24-i*24:=by omega
  have l3:i*24≤a.length*24:=by omega
  have l4:i*24≤b.length*24:=by omega
  have d1:=(ha _ (z3Yb h1)).2.2.2.2.2.2.2
  have d2:=(hb _ (z3Yb h3)).2.2.2.2.2.2.2
  have hq:=eqM d1 d2
  have ho1:=z2fe d1
  have ho2:=z2fe d2
  by_cases h2:atM a i=atM b i
  ·rw[←h2] at e2 ho2 hq
   simp only[decide_true] at hq
   simp(maxSteps:=1000000) (disch:=first|omega|simp;done|simp;omega) [z7G,z8pa,z7pa,z6Da,z1La,kT,kF,dT,dF,h1,h3,hla,hlb,e1,e2,l1,l2,l3,l4,hq,ho1,hQ1]
   refine⟨i+1,by omega,⟨by omega,?_⟩,by omega⟩
   rw[List.take_succ_eq_append_getElem h1,List.take_succ_eq_append_getElem h3,he,←z4sb h1,←z4sb h3,h2]
  ·have hz:decide (a=b)=false:=by simpa using fun e:a=b=>h2 (by rw[e])
   have hq':z8s kM (z5Ma (atM a i)) (z5Ma (atM b i))=false:=by rw[hq];simpa using h2
   simp(maxSteps:=1000000) (disch:=first|omega|simp;done|simp;omega) [z7G,z8pa,z7pa,z6Da,z1La,kT,kF,dT,dF,h1,h3,hla,hlb,e1,e2,l1,l2,l3,l4,hq',ho1,ho2,hQ1,hQ0,hz]
 ·have e:i=a.length:=by omega
  subst e
  have hz:decide (a=b)=true:=by simpa using z2Jd h he
  simp(maxSteps:=1000000) (disch:=first|omega|simp;done|simp;omega) [z7G,z8pa,z7pa,z6Da,z70a,kT,kF,dT,dF,hQ1,hQ0,hz]
theorem z2gd (a b:List Int):decide (a=b)=(a==b):=by rw[Bool.eq_iff_iff];simp
set_option maxHeartbeats 8000000 in
theorem z1ad (E:Env) (h133:E.G 133=z4jb) (h301:E.G 301=z71b) (h132:E.G 132=z9Ta):∀ds,z6Sb.pre ds→ds.length=z7Na.n∧awp E z7Na.body (z6va z7Na.res (z6Sb.post ds)) (z4H z7Na.wr ds):=by
 rintro _ ⟨nc,nm,ng,nc',nm',ng',x,y,hx,hy,rfl⟩
 rw[z4Jb hx hy]
 have hd:=hx.1.2.2.2.2.2.1
 have hd':=hy.1.2.2.2.2.2.1
 have hl:=z5Oa (nc:=nc) (nm:=nm) (ng:=ng) hd
 have hl':=z5Oa (nc:=nc') (nm:=nm') (ng:=ng') hd'
 have h28:=z6Ib (nc:=nc) (nm:=nm) (ng:=ng) hd
 have h29:=z1Ib (nc:=nc) (nm:=nm) (ng:=ng) hd
 have h28':=z6Ib (nc:=nc') (nm:=nm') (ng:=ng') hd'
 have h29':=z1Ib (nc:=nc') (nm:=nm') (ng:=ng') hd'
 have hg:=z3Eb (nc:=nc) (nm:=nm) (ng:=ng) hd
 have hg':=z3Eb (nc:=nc') (nm:=nm') (ng:=ng') hd'
 have hm:=hx.1.2.2.2.2.2.2.1
 have hm':=hy.1.2.2.2.2.2.2.1
 have hgl:=hx.2.2.2
 obtain⟨Z,hZ⟩:∃Z,Z=z5Qa x y:=⟨_,rfl⟩
 rw[←hZ]
 have eqd:=z23a hd hd'
 have p1:=z8Ib (nl:=nc) (nl':=nc') hx.2.1 hy.2.1
 have q1:=z8bb x.cmd y.cmd nc nc'
 have p2:=z94c (nl:=nm) (nl':=nm') hm hm' hx.2.2.1
 have q2:=z18b nm nm' hm hm'
 refine⟨rfl,?_⟩
 simp only[z7Na]
 refine z1g fun Q9 hQ9=> ?_
 refine z0Ma fun B hB=> ?_
 simp(maxSteps:=1000000) (disch:=first|omega|simp;done|simp;omega) [z7G,z8pa,z7pa,hl,hl']
 rw[hB];clear hB
 rw[z4ia]
 refine z1g fun Q1 hQ1=> ?_
 rw[z1W]
 refine z9qa fun T hT=> ?_
 simp(maxSteps:=1000000) (disch:=first|omega|simp;done|simp;omega) [z7G,z8pa,z7pa,z3vb,hl,hl',h28,h29,h28',h29',hg,hg',eqd,hd,hd',h133,h301,h132,p1,q1,p2,q2]
 by_cases c1:x.time=y.time
 rotate_left
 ·refine z2qa false 10 4 (by simp[c1]) (by rw[hT];kernel_rfl) (by rw[hT];kernel_rfl) ?_
  have hz:Z=false:=by rw[hZ];simp[z5Qa,c1]
  simp(maxSteps:=1000000) (disch:=first|omega|simp;done|simp;omega) [z7G,z8pa,z7pa,hQ1,hQ9,hz]
 rw[hT];clear hT
 refine z9qa fun T hT=> ?_
 simp(maxSteps:=1000000) (disch:=first|omega|simp;done|simp;omega) [z7G,z8pa,z7pa,z0xb,hl,hl',h28,h29,h28',h29',hg,hg',eqd,hd,hd',h133,h301,h132,p1,q1,p2,q2,c1]
 by_cases c2:x.kind=y.kind
 rotate_left
 ·refine z2qa false 17 4 (by simp[c2]) (by rw[hT];kernel_rfl) (by rw[hT];kernel_rfl) ?_
  have hz:Z=false:=by rw[hZ];simp[z5Qa,c2]
  simp(maxSteps:=1000000) (disch:=first|omega|simp;done|simp;omega) [z7G,z8pa,z7pa,hQ1,hQ9,hz]
 rw[hT];clear hT
 refine z9qa fun T hT=> ?_
 simp(maxSteps:=1000000) (disch:=first|omega|simp;done|simp;omega) [z7G,z8pa,z7pa,z7yb,hl,hl',h28,h29,h28',h29',hg,hg',eqd,hd,hd',h133,h301,h132,p1,q1,p2,q2,c1,c2]
 by_cases c3:x.req=y.req
 rotate_left
 ·refine z2qa false 24 4 (by simp[c3]) (by rw[hT];kernel_rfl) (by rw[hT];kernel_rfl) ?_
  have hz:Z=false:=by rw[hZ];simp[z5Qa,c3]
  simp(maxSteps:=1000000) (disch:=first|omega|simp;done|simp;omega) [z7G,z8pa,z7pa,hQ1,hQ9,hz]
 rw[hT];clear hT
 refine z9qa fun T hT=> ?_
 simp(maxSteps:=1000000) (disch:=first|omega|simp;done|simp;omega) [z7G,z8pa,z7pa,z7wb,hl,hl',h28,h29,h28',h29',hg,hg',eqd,hd,hd',h133,h301,h132,p1,q1,p2,q2,c1,c2,c3]
 by_cases c4:x.mode=y.mode
 rotate_left
 ·refine z2qa false 31 4 (by simp[c4]) (by rw[hT];kernel_rfl) (by rw[hT];kernel_rfl) ?_
  have hz:Z=false:=by rw[hZ];simp[z5Qa,c4]
  simp(maxSteps:=1000000) (disch:=first|omega|simp;done|simp;omega) [z7G,z8pa,z7pa,hQ1,hQ9,hz]
 rw[hT];clear hT
 refine z9qa fun T hT=> ?_
 simp(maxSteps:=1000000) (disch:=first|omega|simp;done|simp;omega) [z7G,z8pa,z7pa,z7xb,hl,hl',h28,h29,h28',h29',hg,hg',eqd,hd,hd',h133,h301,h132,p1,q1,p2,q2,c1,c2,c3,c4]
 by_cases c5:x.dig=y.dig
 rotate_left
 ·refine z2qa false 38 4 (by simp[c5]) (by rw[hT];kernel_rfl) (by rw[hT];kernel_rfl) ?_
  have hz:Z=false:=by rw[hZ];simp[z5Qa,c5]
  simp(maxSteps:=1000000) (disch:=first|omega|simp;done|simp;omega) [z7G,z8pa,z7pa,hQ1,hQ9,hz]
 rw[hT];clear hT
 refine z9qa fun T hT=> ?_
 simp(maxSteps:=1000000) (disch:=first|omega|simp;done|simp;omega) [z7G,z8pa,z7pa,z3yb,hl,hl',h28,h29,h28',h29',hg,hg',eqd,hd,hd',h133,h301,h132,p1,q1,p2,q2,c1,c2,c3,c4,c5]
 by_cases c6:z7Hb x.cmd y.cmd=true
 rotate_left
 ·refine z2qa false 45 4 (by simp[c6]) (by rw[hT];kernel_rfl) (by rw[hT];kernel_rfl) ?_
  have hz:Z=false:=by rw[hZ];simp[z5Qa,c6]
  simp(maxSteps:=1000000) (disch:=first|omega|simp;done|simp;omega) [z7G,z8pa,z7pa,hQ1,hQ9,hz]
 rw[hT];clear hT
 refine z9qa fun T hT=> ?_
 simp(maxSteps:=1000000) (disch:=first|omega|simp;done|simp;omega) [z7G,z8pa,z7pa,z4yb,hl,hl',h28,h29,h28',h29',hg,hg',eqd,hd,hd',h133,h301,h132,p1,q1,p2,q2,c1,c2,c3,c4,c5,c6]
 by_cases c7:x.made=y.made
 rotate_left
 ·refine z2qa false 52 4 (by simp[c7]) (by rw[hT];kernel_rfl) (by rw[hT];kernel_rfl) ?_
  have hz:Z=false:=by rw[hZ];simp[z5Qa,c7]
  simp(maxSteps:=1000000) (disch:=first|omega|simp;done|simp;omega) [z7G,z8pa,z7pa,hQ1,hQ9,hz]
 rw[hT];clear hT
 have hz:Z=(x.gone==y.gone):=by
  rw[←z2gd,hZ]
  simp[z5Qa,c1,c2,c3,c4,c5,c6,c7]
 simp(maxSteps:=1000000) (disch:=first|omega|simp;done|simp;omega) [z7G,z8pa,z7pa,z8xb,hl,hl',h28,h29,h28',h29',hg,hg',eqd,hd,hd',h133,h301,h132,p1,q1,p2,q2,z02b,c1,c2,c3,c4,c5,c6,c7,hQ1,hQ9,hz]
end Go.Abs
end
