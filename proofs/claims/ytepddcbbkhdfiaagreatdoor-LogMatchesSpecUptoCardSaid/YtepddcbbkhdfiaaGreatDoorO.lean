/- Lemmas: an abstract interpreter, and what the functions compute. -/
import Derived.Test.YtepddcbbkhdfiaaGreatDoorN
import Derived.Test.YtepddcbbkhdfiaaGreatDoorM
import Derived.Test.YtepddcbbkhdfiaaGreatDoorC
set_option linter.unusedSimpArgs false
set_option linter.unusedVariables false
set_option linter.unusedSectionVars false
section
namespace Go.Abs
end Go.Abs
end

section
namespace Go.Abs
attribute [local simp] z2u fnd wIn z4m z0T
end Go.Abs
end

section
namespace Go.Abs
end Go.Abs
end

section
namespace Go.Abs
end Go.Abs
end

section
namespace Go.Abs
def z6r:Nat→List (List UInt8)→List (List UInt8)→List (List UInt8)
 |_,q,[]=>q
 |n,q,d::l=>z6r (n+1) (z9ca q d (t1N n)) l
theorem z0q:∀(a b:List (List UInt8)) (n:Nat) (q:List (List UInt8)),z6r n q (a++b)=z6r (n+a.length) (z6r n q a) b
 |[],_,_,_=>rfl
 |d::a,b,n,q=>by
  rw[List.cons_append,z6r,z6r,z0q a b,List.length_cons,show n+1+a.length=n+(a.length+1) by omega]
theorem z2N (n:Nat):oN (n+1)+t1N n=oN n+1:=by
 induction n using Nat.strongRecOn with
 |ind n ih=>
  by_cases h:n% 2=1
  ·have:=ih (n/2) (by omega)
   rw[z0s h,z7u n,z7u (n+1),show(n+1)/2=n/2+1 by omega]
   omega
  ·rw[z8o (by omega),z7u n,z7u (n+1),show(n+1)/2=n/2 by omega]
   omega
theorem z4C {q:List (List UInt8)} {n:Nat} (d:List UInt8) (h:q.length=oN n):(z9ca q d (t1N n)).length=oN (n+1):=by
 have h1:=z3u n
 have h2:=z2N n
 rw[z9ca,List.length_append,List.length_take,List.length_singleton]
 omega
theorem z7o:∀(l:List (List UInt8)) {q:List (List UInt8)} {n:Nat},q.length=oN n→(z6r n q l).length=oN (n+l.length)
 |[],_,_,h=>h
 |d::l,q,n,h=>by
  rw[z6r,z7o l (z4C d h),List.length_cons,show n+1+l.length=n+(l.length+1) by omega]
theorem z0I {q:List (List UInt8)} (d:List UInt8):∀t,(z6ja q d t).length=16
 |0=>z0e _ _
 |_+1=>z0e _ _
theorem z6v:∀{l q:List (List UInt8)} {n:Nat},z9n q→z9n (z6r n q l)
 |[],_,_,h=>h
 |d::l,q,n,h=>z6v (l:=l) (by rw[z9ca];exact z3y.2 ⟨z4v h _,z1u.2 ⟨z0I d _,z6z⟩⟩)
def z6qc (q:List (List UInt8)):List UInt8:=z7Sb q (q.length-1)
def prf (n m:Nat) (w:Bool) (q l:List (List UInt8)):List (List UInt8):=
 if h:2≤n∧m≠n then(if m≤spl n then prf (spl n) m w q (l.take (spl n-m))++[z9ia (l.drop (spl n-m))] else prf (n-spl n) (m-spl n) false q.tail l++[q.headD []]) else if w then [] else [z6qc q]
termination_by n
decreasing_by
 ·exact z1H h.1
 ·have:=z5v n;omega
theorem z7Yb {n m:Nat} (h:2≤n∧m≠n) (w:Bool) (q l:List (List UInt8)):prf n m w q l=if m≤spl n then prf (spl n) m w q (l.take (spl n-m))++[z9ia (l.drop (spl n-m))] else prf (n-spl n) (m-spl n) false q.tail l++[q.headD []]:=by rw[prf,dif_pos h]
theorem z73b {n m:Nat} (h:m=n) (w:Bool) (q l:List (List UInt8)):prf n m w q l=if w then [] else [z6qc q]:=by rw[prf,dif_neg (fun h'=>h'.2 h)]
theorem z3wb (n m:Nat) (w:Bool) (q l:List (List UInt8)) (h1:1≤m) (hn:m≤n):(prf n m w q l).length≤n:=by
 by_cases he:m=n
 ·rw[z73b he];cases w<;>simp<;>omega
 ·have h2:2≤n:=by omega
  have hs:=z1H h2
  have hp:=z5v n
  rw[z7Yb ⟨h2,he⟩]
  split
  ·have:=z3wb (spl n) m w q (l.take (spl n-m)) h1 (by omega)
   rw[List.length_append,List.length_singleton];omega
  ·have:=z3wb (n-spl n) (m-spl n) false q.tail l (by omega) (by omega)
   rw[List.length_append,List.length_singleton];omega
termination_by n
decreasing_by
 all_goals omega
end Go.Abs
end

section
namespace Go.Abs
mutual
def fgN:z0a→z0a
 | .sl m _ n cs=> .sl m none n cs
 | .agg cs=> .agg (z2Pd cs)
 | .tup cs=> .tup (z2Pd cs)
 | .undef=> .undef
 | .lit x=> .lit x
 | .bp i o=> .bp i o
 | .bv i e o n c=> .bv i e o n c
 | .ep cs=> .ep cs
 | .fn f x y=> .fn f x y
 | .otup e nl n cs r=> .otup e nl n cs r
 | .oagg p e nl n cs r=> .oagg p e nl n cs r
def z2Pd:List z0a→List z0a
 |[]=>[]
 |c::cs=>fgN c::z2Pd cs
end
theorem z8rc {K:Con} {S:Nat→Nat} {w:World} {m:z5r} {nl:Option Bool} {n:Nat} {cs:List z0a} {v:Value} (h:z9b K S w (.sl m nl n cs) v):z9b K S w (.sl m none n cs) v:=by
 simp only[z9b] at h⊢
 rcases h with⟨b,o,cap,h1,h2,h3,_,h5⟩|⟨q,h1,h2,h3,_⟩
 ·exact .inl ⟨b,o,cap,h1,h2,h3,by simp,h5⟩
 ·exact .inr ⟨q,h1,h2,h3,by simp⟩
mutual
theorem z1nd {K:Con} {g:Gh} {w:World}:∀(d:z0a) (v:Value) (l:Option Loc),Rep K g w l d v→Rep K g w l (fgN d) v
 | .undef,_,_,h=>by simpa only[fgN] using h
 | .lit _,_,_,h=>by simpa only[fgN] using h
 | .bp _ _,_,_,h=>by simpa only[fgN] using h
 | .bv _ _ _ _ _,_,_,h=>by simpa only[fgN] using h
 | .ep _,_,_,h=>by simpa only[fgN] using h
 | .fn _ _ _,_,_,h=>by simpa only[fgN] using h
 | .otup _ _ _ _ _,_,_,h=>by simpa only[fgN] using h
 | .oagg _ _ _ _ _ _,_,_,h=>by simpa only[fgN] using h
 | .sl .plain nl n cs,v,l,h=>by
  simp only[fgN,Rep] at h⊢;exact z8rc h
 | .sl .clip nl n cs,v,l,h=>by
  simp only[fgN,Rep] at h⊢;exact z8rc h
 | .sl (.own e) nl n cs,v,l,h=>by
  simp only[fgN,Rep] at h⊢;exact⟨z8rc h.1,h.2⟩
 | .agg cs,v,l,h=>by
  simp only[fgN,Rep] at h⊢
  obtain⟨a,rfl,h⟩:=h
  exact⟨a,rfl,z9sc cs _ h⟩
 | .tup cs,v,l,h=>by
  simp only[fgN,Rep] at h⊢
  obtain⟨a,rfl,h⟩:=h
  exact⟨a,rfl,z9sc cs _ h⟩
theorem z9sc {K:Con} {g:Gh} {w:World}:∀(cs:List z0a) (vs:List Value),z2b K g w cs vs→z2b K g w (z2Pd cs) vs
 |[],_,h=>by simpa only[z2Pd] using h
 |c::cs,vs,h=>by
  simp only[z2Pd,z2b] at h⊢
  obtain⟨x,xs,rfl,h1,h2⟩:=h
  exact⟨x,xs,rfl,z1nd c x none h1,z9sc cs xs h2⟩
end
def fgC (c:z1f):z1f:=⟨c.pre,fun ds=>fgN (c.post ds)⟩
theorem z9ad {K:Cx} {f:Nat} {c:z1f} (h:z1a K f c):z1a K f (fgC c):=by
 refine⟨h.1,fun S w ds vs hg hd hp=>(h.2 S w ds vs hg hd hp).mono ?_⟩
 rintro e w' ⟨v,g',h1,h2,h3,h4⟩
 exact⟨v,g',h1,h2,z1nd _ _ _ h3,h4⟩
end Go.Abs
end

section
namespace Go.Abs
set_option maxRecDepth 100000
set_option maxHeartbeats 8000000
def z3sd (s:Nat) (q:List (List UInt8)) (es:List z2n):z0a:= .tup [pkA ((s+es.length:Nat):Int) none (z6r s q (z3h es)),i64 0]
def z2bd:z1f:=⟨fun ds=>∃(s:Nat) (ne:Option Bool) (q:List (List UInt8)) (es:List z2n),z9n q∧q.length=oN s∧z2vb es∧es.length≤1000∧s+es.length≤62000∧ds=[pkA (s:Int) none q,z5sa ne es],
 fun ds=>z3sd (gPn (nth ds 0)).toNat (gPl (nth ds 0)) (z7vb (gNn (nth ds 1)) (gCs (nth ds 1)))⟩
theorem z8yd {s:Nat} {ne:Option Bool} {q:List (List UInt8)} {es:List z2n} (h:z9n q) (ho:q.length=oN s) (he:z2vb es) (h1:es.length≤1000) (h2:s+es.length≤62000):z2bd.pre [pkA (s:Int) none q,z5sa ne es]=True:=eq_true ⟨s,ne,q,es,h,ho,he,h1,h2,rfl⟩
theorem z7Cc {s:Nat} {ne:Option Bool} {q:List (List UInt8)} {es:List z2n} (h:z9n q) (he:z2vb es):z2bd.post [pkA (s:Int) none q,z5sa ne es]=z3sd s q es:=by
 show z3sd (gPn (pkA (s:Int) none q)).toNat (gPl (pkA (s:Int) none q)) (z7vb es.length (z6ra es))=_
 rw[z5ib he,show gPn (pkA (s:Int) none q)=(s:Int) from rfl,show gPl (pkA (s:Int) none q)=gDs (.sl .plain none q.length (bys (dgs q))) from rfl,z1Ea h,Int.toNat_natCast]
theorem z9tb (n:Nat):oN n≤n:=by
 induction n using Nat.strongRecOn with
 |ind n ih=>
  rw[z7u]
  by_cases h:n=0
  ·subst h;rw[show 0/2=0 from rfl,z7K];simp
  ·have:=ih (n/2) (by omega);omega
theorem z9Wc {s:Nat} {q:List (List UInt8)} {d:List UInt8} (h:z9n q) (ho:q.length=oN s) (hs:s≤62000):(fgC z7Jc).post [.agg [i64 (s:Int),.sl .plain none q.length (bys (dgs q))],.agg (bys d)]= .tup [.agg [i64 ((s+1:Nat):Int),.sl .plain none (z9ca q d (t1N s)).length (bys (dgs (z9ca q d (t1N s))))],i64 0]:=by
 have h1:z5Ub (s:Int) q d=(((s:Int)+1,z9ca q d (t1N s)),0):=by
  rw[z5Ub,if_pos ⟨by simp[okP,ho];omega,by omega⟩,Int.toNat_natCast]
 show fgN (z7Jc.post _)=_
 rw[z6gc h rfl rfl,h1]
 rw[show((s+1:Nat):Int)=(s:Int)+1 by simp]
 rfl
theorem z8zc {es:List z2n} (h:z2vb es) {i:Nat} (hi:i<es.length):z4Qb (z6ra es) i= .agg (z7va none none none es[i]):=by rw[z4Qb,z8Ab h hi]
theorem z7zc {es:List z2n} (h:z2vb es) (h1:es.length≤1000) (nl:Option Bool):(z9yc z9ub).pre [] [.ep [.sl .plain nl es.length (z6ra es)]]:=
 ⟨rfl,nl,es.length,z6ra es,z4ta h,by omega,fun d hd=>by
  obtain⟨x,_,hx⟩:=List.mem_flatMap.1 hd
  exact⟨(z3eb es d hd).1,(z3eb es d hd).2,(z2yc d hx).2⟩,fun i hi=>by
  rw[z8zc h hi]
  have hs:=h _ (List.getElem_mem hi)
  rw[z1wb hs]
  exact⟨of_eq_true (z6zc hs),by simp,rfl,by simp[yOk],by simp⟩,rfl⟩
theorem z60c {es:List z2n} (h:z2vb es) (nl:Option Bool) (i:Nat):(z9yc z9ub).el [] [.ep [.sl .plain nl es.length (z6ra es)]] i=if hi:i<es.length then some [.agg (bys (z0f 8 [z9Db es[i]]))] else none:=by
 rw[z9Sc]
 by_cases hi:i<es.length
 ·rw[if_pos hi,dif_pos hi,z8zc h hi,z1wb (h _ (List.getElem_mem hi))]
 ·rw[if_neg hi,dif_neg hi]
theorem z23d (E:Env) (h350:E.G 350=z3Zc) (h182:E.G 182=fgC z7Jc) (hI:E.I 372=z9yc z9ub):∀ds,z2bd.pre ds→ds.length=z1wa.n∧awp E z1wa.body (z6va z1wa.res (z2bd.post ds)) (z4H z1wa.wr ds):=by
 rintro _ ⟨s,ne,q,es,hq,ho,he,h1,h2,rfl⟩
 rw[z7Cc hq he]
 unfold pkA z5Aa z5sa
 have p1:z3Zc.pre [.sl .plain ne es.length (z6ra es)]=True:=eq_true ⟨ne,es.length,z6ra es,z4ta he,by simp,rfl⟩
 have p2:z3Zc.post [.sl .plain ne es.length (z6ra es)]= .fn 372 [] [.ep [.sl .plain ne es.length (z6ra es)]]:=rfl
 generalize hQf:z6va z1wa.res (z3sd s q es)=Qf
 simp(maxSteps:=1000000) (disch:=first|omega|simp;done|simp;omega) [z7G,z1wa,h350,p1,p2]
 have hel:=z60c he ne
 have hpre:=z7zc he h1 ne
 have hdl:(z3h es).length=es.length:=by simp[z3h]
 refine z1g fun Q1 hQ1=> ?_
 have hA:∀i,z9n (z6r s q ((z3h es).take i)):=fun i=>z6v hq
 have hAl:∀i,i≤es.length→(z6r s q ((z3h es).take i)).length=oN (s+i):=fun i hi=>by
  rw[z7o _ ho,List.length_take,hdl,Nat.min_eq_left hi]
 refine z7zb [] [.ep [.sl .plain ne es.length (z6ra es)]] (by simp) (by simp) (by rw[hI];rfl) (by rw[hI];exact hpre) (by simp) es.length (fun i bx=>i≤es.length∧bx=[(2,some [i64 ((s+i:Nat):Int),.sl .plain none (z6r s q ((z3h es).take i)).length (bys (dgs (z6r s q ((z3h es).take i))))]),(4,some [i64 0,.sl .plain none 0 []]),(5,some [i64 0]),(10,none)]) ⟨Nat.zero_le _,by simp[z6r]⟩ (fun i bx h=>h.1) (fun i bx h hn=> ?_) (fun i bx xs hi hx=> ?_)
 ·rw[hI,hel] at hn
  obtain⟨hi,rfl⟩:=h
  split at hn
  ·cases hn
  ·have hii:i=es.length:=by omega
   subst hii
   rw[List.take_of_length_le (by omega)]
   have hA1:=z2ua (hA es.length)
   rw[List.take_of_length_le (by omega)] at hA1
   rw[hQ1]
   simp(maxSteps:=1000000) (disch:=first|omega|simp;done|simp;omega) [z7G,z3oa,z0u,z8Cb,←hQf,z3sd,pkA,z5Aa,z1wa,z4wa,z2wa]
 ·rw[hI,hel] at hx
  obtain⟨hi,rfl⟩:=hi
  split at hx
  ·rename_i hlt
   have hx':=(Option.some.inj hx).symm
   subst hx'
   have dl:(z0f 8 [z9Db es[i]]).length=16:=z0e _ _
   refine⟨rfl,by simp,fun V=> ?_⟩
   have hA1:=z2ua (hA i)
   have ec:((s+i:Nat):Int)=(s:Int)+(i:Int):=by simp
   have ec1:((s+i+1:Nat):Int)=(s:Int)+(i:Int)+1:=by simp
   have pp:(fgC z7Jc).pre [.agg [i64 ((s+i:Nat):Int),.sl .plain none (z6r s q ((z3h es).take i)).length (bys (dgs (z6r s q ((z3h es).take i))))],.agg (bys (z0f 8 [z9Db es[i]]))]=True:=z3Bc (nl:=none) ⟨by omega,by omega⟩ (hA i) (by have:=hAl i hi;have:=z9tb (s+i);omega) dl rfl rfl
   have pq:=z9Wc (s:=s+i) (d:=z0f 8 [z9Db es[i]]) (hA i) (hAl i hi) (by omega)
   have hnx:z6r s q ((z3h es).take (i+1))=z9ca (z6r s q ((z3h es).take i)) (z0f 8 [z9Db es[i]]) (t1N (s+i)):=by
    rw[show(z3h es).take (i+1)=(z3h es).take i++[z0f 8 [z9Db es[i]]] by rw[List.take_succ_eq_append_getElem (by omega)];simp[z3h],z0q,List.length_take,hdl,Nat.min_eq_left hi]
    rfl
   rw[ec,ec1] at pq
   rw[ec] at pp
   rw[hnx]
   generalize z6r s q ((z3h es).take i)=A at*
   generalize z9ca A (z0f 8 [z9Db es[i]]) (t1N (s+i))=B at*
   simp(maxSteps:=1000000) (disch:=first|omega|simp;done|simp;omega) [z7G,z3oa,z0u,z3Db,z9Cb,dl,z9pa,h182,z7ta dl,pp,pq,kT,kF,z4wa,z2wa,z1Fc,z6E]
   exact⟨by omega,by omega⟩
  ·cases hx
end Go.Abs
end

section
namespace Go.Abs
set_option maxRecDepth 100000
set_option maxHeartbeats 8000000
def z8rb (l:z0n) (n:Int):(Int×List (List UInt8))×Nat:=if n<l.size∨(l.len:Int)<n then((0,[]),11) else((n,z6r l.size l.roots (z3h (l.ents.take (n.toNat-l.size)))),0)
def z34b:z1f:=⟨fun ds=>∃(l:z0n) (n:Int),l.ok∧z2e n∧ds=[z4Ca none none l,i64 n],fun ds=> .tup [pkA (z8rb (z5Cb (nth ds 0)) (asI (nth ds 1))).1.1 none (z8rb (z5Cb (nth ds 0)) (asI (nth ds 1))).1.2,i64 ((z8rb (z5Cb (nth ds 0)) (asI (nth ds 1))).2:Int)]⟩
theorem z2sb {l:z0n} {n:Int} (h:l.ok) (hn:z2e n):z34b.pre [z4Ca none none l,i64 n]=True:=eq_true ⟨l,n,h,hn,rfl⟩
theorem z9Xa {l:z0n} (n:Int) (h:l.ok):z34b.post [z4Ca none none l,i64 n]= .tup [pkA (z8rb l n).1.1 none (z8rb l n).1.2,i64 ((z8rb l n).2:Int)]:=by
 show z0a.tup [pkA (z8rb (z5Cb (z4Ca none none l)) n).1.1 none (z8rb (z5Cb (z4Ca none none l)) n).1.2,i64 ((z8rb (z5Cb (z4Ca none none l)) n).2:Int)]=_
 rw[z7Gb h]
theorem z6Yd (E:Env) (h349:E.G 349=z7mb) (h180:E.G 180=z6nc) (h354:E.G 354=z2bd):∀ds,z34b.pre ds→ds.length=z1Ja.n∧awp E z1Ja.body (z6va z1Ja.res (z34b.post ds)) (z4H z1Ja.wr ds):=by
 rintro _ ⟨l,n,h,hn,rfl⟩
 rw[z9Xa n h]
 have hs:=h.s
 have p3:z7mb.pre [z4Ca none none l]=True:=z3fb h
 have p4:z7mb.post [z4Ca none none l]=i64 (l.len:Int):=z1Oa h
 have hll:l.len=l.size+l.ents.length:=rfl
 simp only[z4Ca,z5Aa,z5sa] at p3 p4⊢
 by_cases c1:n<l.size
 ·have hr:z8rb l n=((0,[]),11):=by rw[z8rb,if_pos (.inl c1)]
  have d1:decide (n<(l.size:Int))=true:=decide_eq_true c1
  rw[hr]
  simp(maxSteps:=1000000) (disch:=first|omega|simp;done|simp;omega) [z7G,z1Ja,pkA,z5Aa,d1,kT,kF,z4wa,z2wa]
 ·have d1:decide (n<(l.size:Int))=false:=decide_eq_false c1
  by_cases c2:(l.len:Int)<n
  ·have hr:z8rb l n=((0,[]),11):=by rw[z8rb,if_pos (.inr c2)]
   have d2:decide ((l.len:Int)<n)=true:=decide_eq_true c2
   rw[hr]
   simp(maxSteps:=1000000) (disch:=first|omega|simp;done|simp;omega) [z7G,z1Ja,pkA,z5Aa,d1,d2,h349,p3,p4,kT,kF,z4wa,z2wa]
  ·have hr:z8rb l n=((n,z6r l.size l.roots (z3h (l.ents.take (n.toNat-l.size)))),0):=by rw[z8rb,if_neg (by omega)]
   have d2:decide ((l.len:Int)<n)=false:=decide_eq_false c2
   have hlen:=z4ta h.e
   have htk:=z9zb h.e (n.toNat-l.size)
   have hsm:z2vb (l.ents.take (n.toNat-l.size)):=fun x hx=>h.e x (List.mem_of_mem_take hx)
   have hle:(l.ents.take (n.toNat-l.size)).length=n.toNat-l.size:=by rw[List.length_take];omega
   have q1:z2bd.pre [pkA (l.size:Int) none l.roots,z5sa none (l.ents.take (n.toNat-l.size))]=True:=z8yd h.r h.o hsm (by have:=h.n;omega) (by omega)
   have q2:z2bd.post [pkA (l.size:Int) none l.roots,z5sa none (l.ents.take (n.toNat-l.size))]=z3sd l.size l.roots (l.ents.take (n.toNat-l.size)):=z7Cc h.r hsm
   have en:((l.size+(n.toNat-l.size):Nat):Int)=n:=by omega
   rw[z3sd,hle,en] at q2
   simp only[pkA,z5Aa,z5sa,hle] at q1 q2
   have i1:(n-(l.size:Int)).toNat=n.toNat-l.size:=by omega
   have k1:z6nc.pre [.sl .plain none l.roots.length (bys (dgs l.roots))]=True:=eq_true ⟨none,l.roots,h.r,by have:=h.o;have:=z9tb l.size;omega,rfl⟩
   have k2:z6nc.post [.sl .plain none l.roots.length (bys (dgs l.roots))]= .sl (.own 16) none l.roots.length (bys (dgs l.roots)):=by
    show z7rb none (gDs (.sl .plain none l.roots.length (bys (dgs l.roots))))=_
    rw[z1Ea h.r];rfl
   rw[hr]
   simp(maxSteps:=1000000) (disch:=first|omega|simp;done|simp;omega) [z7G,z1Ja,z6Db,pkA,z5Aa,d1,d2,h349,p3,p4,kT,kF,z4wa,z2wa,h180,k1,k2,h354,i1,hlen,htk,q1,q2]
   exact⟨by omega,by omega⟩
def z86c (l:z0n):List UInt8:=(z06b l.len (z6r l.size l.roots (z3h l.ents))).1
def z0Tb:z1f:=⟨fun ds=>∃l:z0n,l.ok∧ds=[z4Ca none none l],fun ds=> .agg (bys (z86c (z5Cb (nth ds 0))))⟩
theorem z7bd {l:z0n} (h:l.ok):z0Tb.pre [z4Ca none none l]=True:=eq_true ⟨l,h,rfl⟩
theorem z0Zb {l:z0n} (h:l.ok):z0Tb.post [z4Ca none none l]= .agg (bys (z86c l)):=by
 show z0a.agg (bys (z86c (z5Cb (z4Ca none none l))))=_
 rw[z7Gb h]
theorem z6Dd (E:Env) (h349:E.G 349=z7mb) (h348:E.G 348=z34b) (h185:E.G 185=z3kc):∀ds,z0Tb.pre ds→ds.length=z82a.n∧awp E z82a.body (z6va z82a.res (z0Tb.post ds)) (z4H z82a.wr ds):=by
 rintro _ ⟨l,h,rfl⟩
 rw[z0Zb h]
 have hs:=h.s
 have hll:l.len=l.size+l.ents.length:=rfl
 have p3:z7mb.pre [z4Ca none none l]=True:=z3fb h
 have p4:z7mb.post [z4Ca none none l]=i64 (l.len:Int):=z1Oa h
 have q1:z34b.pre [z4Ca none none l,i64 (l.len:Int)]=True:=z2sb h ⟨by omega,by omega⟩
 have q2:=z9Xa (l:=l) (l.len:Int) h
 have hp:z8rb l (l.len:Int)=(((l.len:Int),z6r l.size l.roots (z3h l.ents)),0):=by
  rw[z8rb,if_neg (by omega),Int.toNat_natCast,List.take_of_length_le (by omega)]
 rw[hp] at q2
 have hA:z9n (z6r l.size l.roots (z3h l.ents)):=z6v h.r
 have hAl:(z6r l.size l.roots (z3h l.ents)).length=oN l.len:=by rw[z7o _ h.o];simp[z3h,z0n.len]
 have t1:z3kc.pre [.agg [i64 (l.len:Int),.sl .plain none (z6r l.size l.roots (z3h l.ents)).length (bys (dgs (z6r l.size l.roots (z3h l.ents))))]]=True:=z8Ac ⟨by omega,by omega⟩ hA (by have:=z9tb l.len;omega) rfl rfl
 have t2:=z2Ib (n:=(l.len:Int)) (m:= .plain) (nl:=none) hA rfl rfl
 have ho:okP (l.len:Int) (z6r l.size l.roots (z3h l.ents)).length=true:=by simp[okP,hAl];omega
 have tl:(z06b (l.len:Int) (z6r l.size l.roots (z3h l.ents))).1.length=16:=by
  rw[z06b,if_pos ho]
  show(if(l.len:Int)=0 then z9ia [] else _).length=16
  split
  ·exact z0Xa []
  ·exact z9La hA (by rw[hAl];exact z4Sb (by omega)) _
 simp only[z4Ca,z5Aa,z5sa,pkA] at p3 p4 q1 q2⊢
 unfold z86c
 generalize z06b (l.len:Int) (z6r l.size l.roots (z3h l.ents))=T at*
 generalize z6r l.size l.roots (z3h l.ents)=A at*
 simp(maxSteps:=1000000) (disch:=first|omega|simp;done|simp;omega) [z7G,z82a,h349,p3,p4,h348,q1,q2,h185,t1,t2,tl,z4wa,z2wa,z9pa,z7ta tl]
end Go.Abs
end

section
namespace Go.Abs
set_option maxRecDepth 100000
set_option maxHeartbeats 8000000
def z7qc (l:z0n) (n:Int):z0n×Nat:=if n<l.size∨(l.len:Int)<n then(⟨0,[],[]⟩,11) else(⟨n.toNat,z6r l.size l.roots (z3h (l.ents.take (n.toNat-l.size))),l.ents.drop (n.toNat-l.size)⟩,0)
def z4Nc:z1f:=⟨fun ds=>∃(l:z0n) (n:Int),l.ok∧z2e n∧ds=[z4Ca none none l,i64 n],fun ds=> .tup [z4Ca none none (z7qc (z5Cb (nth ds 0)) (asI (nth ds 1))).1,i64 ((z7qc (z5Cb (nth ds 0)) (asI (nth ds 1))).2:Int)]⟩
theorem z7Bd {l:z0n} {n:Int} (h:l.ok) (hn:z2e n):z4Nc.pre [z4Ca none none l,i64 n]=True:=eq_true ⟨l,n,h,hn,rfl⟩
theorem z79b {l:z0n} (n:Int) (h:l.ok):z4Nc.post [z4Ca none none l,i64 n]= .tup [z4Ca none none (z7qc l n).1,i64 ((z7qc l n).2:Int)]:=by
 show z0a.tup [z4Ca none none (z7qc (z5Cb (z4Ca none none l)) n).1,i64 ((z7qc (z5Cb (z4Ca none none l)) n).2:Int)]=_
 rw[z7Gb h]
theorem z3ae (E:Env) (h348:E.G 348=z34b) (h358:E.G 358=z2Cb):∀ds,z4Nc.pre ds→ds.length=z8Ra.n∧awp E z8Ra.body (z6va z8Ra.res (z4Nc.post ds)) (z4H z8Ra.wr ds):=by
 rintro _ ⟨l,n,h,hn,rfl⟩
 rw[z79b n h]
 have hs:=h.s
 have hll:l.len=l.size+l.ents.length:=rfl
 have q1:=z2sb h hn
 have q2:=z9Xa n h
 by_cases c:n<l.size∨(l.len:Int)<n
 ·rw[z8rb,if_pos c] at q2
  rw[z7qc,if_pos c]
  simp only[z4Ca,z5Aa,z5sa,pkA] at q1 q2⊢
  have e0:z6ra []=[]:=rfl
  simp(maxSteps:=1000000) (disch:=first|omega|simp;done|simp;omega) [z7G,z8Ra,h348,q1,q2,kT,kF,z4wa,z2wa,e0]
 ·rw[z8rb,if_neg c] at q2
  rw[z7qc,if_neg c]
  have i1:(n-(l.size:Int)).toNat=n.toNat-l.size:=by omega
  have hlen:=z4ta h.e
  have hdr:=z0cb h.e (n.toNat-l.size)
  have hld:(l.ents.drop (n.toNat-l.size)).length=l.ents.length-(n.toNat-l.size):=List.length_drop
  have k1:z2Cb.pre [.sl .plain none (l.ents.length-(n.toNat-l.size)) (z6ra (l.ents.drop (n.toNat-l.size)))]=True:=eq_true ⟨none,_,_,by rw[z4ta (fun x hx=>h.e x (List.mem_of_mem_drop hx)),hld],z3eb _,by have:=h.n;omega,rfl⟩
  have k2:z2Cb.post [.sl .plain none (l.ents.length-(n.toNat-l.size)) (z6ra (l.ents.drop (n.toNat-l.size)))]= .sl (.own 30) none (l.ents.length-(n.toNat-l.size)) (z6ra (l.ents.drop (n.toNat-l.size))):=rfl
  have hn0:((n.toNat:Nat):Int)=n:=by omega
  have htk:List.take ((l.ents.length-(n.toNat-l.size))*30) (z6ra (l.ents.drop (n.toNat-l.size)))=z6ra (l.ents.drop (n.toNat-l.size)):=List.take_of_length_le (by rw[z4ta (fun x hx=>h.e x (List.mem_of_mem_drop hx)),hld];exact Nat.le_refl _)
  simp only[z4Ca,z5Aa,z5sa,pkA,hld,hn0] at q1 q2 k1 k2⊢
  generalize z6r l.size l.roots (z3h (l.ents.take (n.toNat-l.size)))=A at*
  simp(maxSteps:=1000000) (disch:=first|omega|simp;done|simp;omega) [z7G,z8Ra,z4Hb,h348,q1,q2,kT,kF,z4wa,z2wa,i1,hlen,hdr,htk,h358,k1,k2]
  exact⟨by omega,by omega⟩
end Go.Abs
end

section
namespace Go.Abs
set_option maxRecDepth 100000
set_option maxHeartbeats 8000000
def gFe (d:z0a):List z2n:=match d with| .fn _ _ [.ep [.sl _ _ n cs]]=>z7vb n cs|_=>[]
def z0qc:z1f:=⟨fun ds=>∃(ne:Option Bool) (es:List z2n),z2vb es∧es.length≤1000∧ds=[.sl .plain (some true) 0 [],.fn 372 [] [.ep [z5sa ne es]]],fun ds=>z7rb none (z3h (gFe (nth ds 1)))⟩
def z3rd:z1f:=⟨fun ds=>∃(ne:Option Bool) (es:List z2n),z2vb es∧es.length≤1000∧ds=[.fn 372 [] [.ep [z5sa ne es]]],fun ds=>z7rb none (z3h (gFe (nth ds 0)))⟩
theorem z9Cc {ne:Option Bool} {es:List z2n} (h:z2vb es):gFe (.fn 372 [] [.ep [z5sa ne es]])=es:=z5ib h
theorem z2vd (E:Env) (hI:E.I 372=z9yc z9ub):∀ds,z0qc.pre ds→ds.length=z0qa.n∧awp E z0qa.body (z6va z0qa.res (z0qc.post ds)) (z4H z0qa.wr ds):=by
 rintro _ ⟨ne,es,he,h1,rfl⟩
 rw[show z0qc.post [.sl .plain (some true) 0 [],.fn 372 [] [.ep [z5sa ne es]]]=z7rb none (z3h es) by show z7rb none (z3h (gFe (.fn 372 [] [.ep [z5sa ne es]])))=_;rw[z9Cc he]]
 generalize hQf:z6va z0qa.res (z7rb none (z3h es))=Qf
 have hel:=z60c he ne
 have hpre:=z7zc he h1 ne
 have hdl:(z3h es).length=es.length:=by simp[z3h]
 unfold z5sa
 simp(maxSteps:=1000000) (disch:=first|omega|simp;done|simp;omega) [z7G,z0qa,z1m]
 refine z1g fun Q1 hQ1=> ?_
 refine z7zb [] [.ep [.sl .plain ne es.length (z6ra es)]] (by simp) (by simp) (by rw[hI];rfl) (by rw[hI];exact hpre) (by simp) es.length (fun i bx=>i≤es.length∧bx=[(2,some [.sl (.own 16) none i (bys (dgs ((z3h es).take i)))])]) ⟨Nat.zero_le _,by simp[dgs]⟩ (fun i bx h=>h.1) (fun i bx h hn=> ?_) (fun i bx xs hi hx=> ?_)
 ·rw[hI,hel] at hn
  obtain⟨hi,rfl⟩:=h
  split at hn
  ·cases hn
  ·have hii:i=es.length:=by omega
   subst hii
   rw[List.take_of_length_le (by omega)]
   rw[hQ1]
   simp(maxSteps:=1000000) (disch:=first|omega|simp;done|simp;omega) [z7G,z3oa,z0u,z3Da,←hQf,z0qa,z7rb,hdl]
 ·rw[hI,hel] at hx
  obtain⟨hi,rfl⟩:=hi
  split at hx
  ·rename_i hlt
   have hx':=(Option.some.inj hx).symm
   subst hx'
   have dl:(z0f 8 [z9Db es[i]]).length=16:=z0e _ _
   refine⟨rfl,by simp,fun V=> ?_⟩
   have hnx:(z3h es).take (i+1)=(z3h es).take i++[z0f 8 [z9Db es[i]]]:=by rw[List.take_succ_eq_append_getElem (by omega)];simp[z3h]
   have hA1:=z2ua (z4v (z3Vb es) i)
   rw[List.length_take,hdl,Nat.min_eq_left hi] at hA1
   have hnd:dgs ((z3h es).take i++[z0f 8 [z9Db es[i]]])=dgs ((z3h es).take i)++z0f 8 [z9Db es[i]]:=by simp[dgs]
   rw[hnx,hnd]
   generalize dgs ((z3h es).take i)=A at*
   simp(maxSteps:=1000000) (disch:=first|omega|simp;done|simp;omega) [z7G,z8pa,z7pa,z3oa,z0u,z4Da,z0Da,dl,z9pa,z7ta dl,kT,kF,z1Fc,z6E,hA1]
   exact⟨⟨by omega,by omega⟩,by omega⟩
  ·cases hx
theorem z97d (E:Env) (h371:E.G 371=z0qc):∀ds,z3rd.pre ds→ds.length=z3ra.n∧awp E z3ra.body (z6va z3ra.res (z3rd.post ds)) (z4H z3ra.wr ds):=by
 rintro _ ⟨ne,es,he,h1,rfl⟩
 rw[show z3rd.post [.fn 372 [] [.ep [z5sa ne es]]]=z7rb none (z3h es) by show z7rb none (z3h (gFe (.fn 372 [] [.ep [z5sa ne es]])))=_;rw[z9Cc he]]
 have p1:z0qc.pre [.sl .plain (some true) 0 [],.fn 372 [] [.ep [z5sa ne es]]]=True:=eq_true ⟨ne,es,he,h1,rfl⟩
 have p2:z0qc.post [.sl .plain (some true) 0 [],.fn 372 [] [.ep [z5sa ne es]]]=z7rb none (z3h es):=by show z7rb none (z3h (gFe (.fn 372 [] [.ep [z5sa ne es]])))=_;rw[z9Cc he]
 have ta:∀(bx:Nat→List z0a) (cs:List z0a),z1k bx (.ep cs)= .ep cs:=fun _ _=>rfl
 have oa:z0d [] (fun _=>none) (.fn 372 [] [.ep [z5sa ne es]])=True:=eq_true ⟨by simp,by simp[z8e,z5sa]⟩
 unfold z5sa at*
 unfold z7rb at*
 simp(maxSteps:=1000000) (disch:=first|omega|simp;done|simp;omega) [z7G,z3ra,h371,p1,p2,ta,oa]
end Go.Abs
end

section
namespace Go.Abs
set_option maxRecDepth 100000
set_option maxHeartbeats 8000000
def z8qc:z1f:=⟨fun ds=>∃(nl:Option Bool) (l:List (List UInt8)),z9n l∧l.length≤1000000∧0<l.length∧ds=[z5Aa nl l],fun ds=> .agg (bys (z6qc (gDs (nth ds 0))))⟩
theorem z25c {nl:Option Bool} {l:List (List UInt8)} (h:z9n l) (hl:l.length≤1000000) (h0:0<l.length):z8qc.pre [z5Aa nl l]=True:=eq_true ⟨nl,l,h,hl,h0,rfl⟩
theorem z8Ub {nl:Option Bool} {l:List (List UInt8)} (h:z9n l):z8qc.post [z5Aa nl l]= .agg (bys (z6qc l)):=by
 show z0a.agg (bys (z6qc (gDs (.sl .plain nl l.length (bys (dgs l))))))=_
 rw[z1Ea h]
theorem z9Sd (E:Env) (h8:E.G 8=ofC) (hI184:E.I 184=z1mc) (h183:E.M 183=z1rc):∀ds,z8qc.pre ds→ds.length=z4za.n∧awp E z4za.body (z6va z4za.res (z8qc.post ds)) (z4H z4za.wr ds):=by
 rintro _ ⟨nl,l,hl,hlen,hpos,rfl⟩
 rw[z8Ub hl]
 unfold z5Aa
 generalize hQf:z6va z4za.res (.agg (bys (z6qc l)))=Qf
 have hd:=z2ua hl
 have hat:=z8cb hl (show l.length-1<l.length by omega)
 have hal:=z4Ga hl (show l.length-1<l.length by omega)
 have e1:((l.length:Int)-1).toNat=l.length-1:=by omega
 have ht:=z63a hl (l.length-1)
 have b1:z1rc.pre [.sl .plain nl (l.length-1) (bys (dgs (l.take (l.length-1))))]=True:=z0ec (z4v hl _) (by simp;omega) (by simp) rfl
 have di:∀(ids:List Nat) (f:Nat→List z0a) (k:Int),z9F ids f (i64 k)=i64 k:=fun _ _ _=>rfl
 simp(maxSteps:=1000000) (disch:=first|omega|simp;done|simp;omega) [z7G,z8pa,z7pa,z4za,e1,hd,hat,hal,z9pa,ht,h183,b1,di]
 refine⟨⟨by omega,by omega⟩,by omega,⟨by omega,by omega⟩,?_⟩
 refine z1g fun Q1 hQ1=> ?_
 have hm:z9n (l.take (l.length-1)):=z4v hl _
 have hml:(l.take (l.length-1)).length=l.length-1:=by simp
 have hmat:∀i,i<l.length-1→z5la (l.take (l.length-1)) (l.length-1-1-i)=z5la l (l.length-2-i):=fun i hi=>by
  simp only[z5la,List.getD,List.getElem?_take]
  rw[if_pos (by omega),show l.length-1-1-i=l.length-2-i by omega]
 have hel:=fun i=>z2ac (nl:=nl) hm i
 rw[hml] at hel
 generalize hm0:l.take (l.length-1)=m at*
 refine z7zb [] [.ep [.sl .plain nl (l.length-1) (bys (dgs m))]] (by simp) (by simp) (by rw[hI184];rfl) (by rw[hI184];have:=z8Cc (nl:=nl) hm (by omega);rw[hml] at this;exact this) (by simp) l.length (fun i bx=>i≤l.length-1∧bx=[(2,some (bys (z5j 16))),(3,some (bys (z7Sb l i)))]) ⟨Nat.zero_le _,rfl⟩ (fun i bx h=>by omega) (fun i bx h he=> ?_) (fun i bx xs hi he=> ?_)
 ·rw[hI184,hel] at he
  obtain⟨hi,rfl⟩:=h
  split at he
  ·cases he
  ·have hii:i=l.length-1:=by omega
   subst hii
   have tl:=z9La hl hpos (l.length-1)
   have tk:=z7ta tl
   rw[hQ1]
   simp(maxSteps:=1000000) (disch:=first|omega|simp;done|simp;omega) [z7G,z8pa,z7pa,z3oa,z0u,z2Jb,tl,z9pa,←hQf,z4za,tk,z6qc]
 ·rw[hI184,hel] at he
  obtain⟨hi,rfl⟩:=hi
  split at he
  ·rename_i hlt
   have he':=(Option.some.inj he).symm
   subst he'
   have tl:=z9La hl hpos i
   refine⟨rfl,by simp,fun V=> ?_⟩
   have al:=z4Ga hl (show l.length-2-i<l.length by omega)
   rw[hmat i hlt]
   have tn:z7Sb l (i+1)=z0f 2 [z5la l (l.length-2-i),z7Sb l i]:=rfl
   rw[tn]
   have dl:=z0e 2 [z5la l (l.length-2-i),z7Sb l i]
   have o1:ofC.pre [i64 2,.sl .plain (some false) 2 [st (z5la l (l.length-2-i)),st (z7Sb l i)]]=True:=eq_true ⟨2,some false,[z5la l (l.length-2-i),z7Sb l i],by simp[z9rb,al,tl],rfl⟩
   have o2:ofC.post [i64 2,.sl .plain (some false) 2 [st (z5la l (l.length-2-i)),st (z7Sb l i)]]= .agg (bys (z0f 2 [z5la l (l.length-2-i),z7Sb l i])):=by
    show z0a.agg (bys (z0f 2 (gSs [st (z5la l (l.length-2-i)),st (z7Sb l i)])))=_
    simp[gSs]
   generalize z0f 2 [z5la l (l.length-2-i),z7Sb l i]=D at*
   simp(maxSteps:=1000000) (disch:=first|omega|simp;done|simp;omega) [z7G,z8pa,z7pa,z3oa,z0u,z5Hb,z0Kb,al,tl,dl,z9pa,h8,o1,o2,z1Fc,z6E,z7ta,z4wa,z2wa]
   omega
  ·cases he
end Go.Abs
end

section
namespace Go.Abs
set_option maxRecDepth 100000
set_option maxHeartbeats 8000000
def z0vb (n m:Nat) (w:Bool):Option Bool:=if m=n∧w=false then some false else none
def z2Vb (n m:Nat) (w:Bool) (q l:List (List UInt8)):z0a:=z7rb (z0vb n m w) (prf n m w q l)
structure z2cc (n m:Nat) (q l:List (List UInt8)):Prop where
 m1:1≤m
 mn:m+l.length=n
 nn:n≤62000
 q16:z9n q
 l16:z9n l
 qo:q.length=oN m
def z44b:z1f:=⟨fun ds=>∃(n m:Nat) (w:Bool) (nq nl:Option Bool) (q l:List (List UInt8)),z2cc n m q l∧ds=[i64 (n:Int),i64 (m:Int),bo w,z5Aa nq q,z5Aa nl l],
 fun ds=>z2Vb (asI (nth ds 0)).toNat (asI (nth ds 1)).toNat (asB (nth ds 2)) (gDs (nth ds 3)) (gDs (nth ds 4))⟩
theorem z9Ob {n m:Nat} {w:Bool} {nq nl:Option Bool} {q l:List (List UInt8)} (h:z2cc n m q l):z44b.pre [i64 (n:Int),i64 (m:Int),bo w,z5Aa nq q,z5Aa nl l]=True:=eq_true ⟨n,m,w,nq,nl,q,l,h,rfl⟩
theorem z0kb {n m:Nat} {w:Bool} {nq nl:Option Bool} {q l:List (List UInt8)} (h:z2cc n m q l):z44b.post [i64 (n:Int),i64 (m:Int),bo w,z5Aa nq q,z5Aa nl l]=z2Vb n m w q l:=by
 show z2Vb ((n:Int)).toNat ((m:Int)).toNat w (gDs (.sl .plain nq q.length (bys (dgs q)))) (gDs (.sl .plain nl l.length (bys (dgs l))))=_
 rw[z1Ea h.q16,z1Ea h.l16,Int.toNat_natCast,Int.toNat_natCast]
theorem z8Qc (n m:Nat) (w:Bool) (q l:List (List UInt8)) (hq:z9n q) (ho:q.length=oN m) (h1:1≤m) (hn:m+l.length=n):z9n (prf n m w q l):=by
 have hp:0<q.length:=by rw[ho];exact z4Sb h1
 by_cases he:m=n
 ·rw[z73b he]
  cases w
  ·exact z1u.2 ⟨z9La hq hp _,z6z⟩
  ·exact z6z
 ·have h2:2≤n:=by omega
  have hs:=z1H h2
  have hps:=z5v n
  rw[z7Yb ⟨h2,he⟩]
  split
  ·rename_i hk
   exact z3y.2 ⟨z8Qc (spl n) m w q _ hq ho h1 (by rw[List.length_take];omega),z1u.2 ⟨z0Xa _,z6z⟩⟩
  ·rename_i hk
   have hm:2^Nat.log2 (n-1)+(m-spl n)=m:=by change spl n+(m-spl n)=m;omega
   have hw:=z5pb h2
   have ho':oN m=oN (m-spl n)+1:=by
    have:=z0Vc (k:=Nat.log2 (n-1)) (m:=m-spl n) (by change m-spl n<spl n;omega)
    rwa[hm] at this
   cases q with
   |nil=>simp at hp
   |cons a q'=>
    have h16:=z1u.1 hq
    exact z3y.2 ⟨z8Qc (n-spl n) (m-spl n) false q' l h16.2 (by simp at ho;omega) (by omega) (by omega),z1u.2 ⟨h16.1,z6z⟩⟩
termination_by n
decreasing_by
 all_goals omega
end Go.Abs
end

section
namespace Go.Abs
set_option maxRecDepth 100000
set_option maxHeartbeats 8000000
def z0Ac (ds:List z0a):Nat:=(asI (nth ds 0)).toNat
theorem z5zd (E:Env) (N:Nat) (h370:E.G 370=z8qc) (h168:E.G 168=z2Ua) (h352:E.G 352=z6Bb z44b z0Ac N):∀ds,(z6Bb z44b z0Ac (N+1)).pre ds→ds.length=z0ua.n∧awp E z0ua.body (z6va z0ua.res (z44b.post ds)) (z4H z0ua.wr ds):=by
 rintro _ ⟨⟨n,m,w,nq,nl,q,l,h,rfl⟩,hN⟩
 rw[z0kb h]
 have hm1:=h.m1
 have hmn:=h.mn
 have hnn:=h.nn
 have hqp:0<q.length:=by rw[h.qo];exact z4Sb hm1
 have hdq:=z2ua h.q16
 have hdl:=z2ua h.l16
 unfold z5Aa
 by_cases he:m=n
 ·subst he
  have d1:decide ((m:Int)=(m:Int))=true:=decide_eq_true rfl
  cases w with
  |true=>
   have hr:z2Vb m m true q l= .sl (.own 16) none 0 []:=by rw[z2Vb,z73b rfl];simp[z7rb,z0vb,dgs]
   rw[hr]
   simp(maxSteps:=1000000) (disch:=first|omega|simp;done|simp;omega) [z7G,z8pa,z7pa,z0ua,kT,kF]
  |false=>
   have hr:z2Vb m m false q l= .sl (.own 16) (some false) 1 (bys (z6qc q)):=by rw[z2Vb,z73b rfl];simp[z7rb,z0vb,dgs]
   have f1:z8qc.pre [.sl .plain nq q.length (bys (dgs q))]=True:=z25c h.q16 (by have:=h.qo;have:=z9tb m;omega) hqp
   have f2:z8qc.post [.sl .plain nq q.length (bys (dgs q))]= .agg (bys (z6qc q)):=z8Ub h.q16
   have tl:(z6qc q).length=16:=z9La h.q16 hqp _
   rw[hr]
   simp(maxSteps:=1000000) (disch:=first|omega|simp;done|simp;omega) [z7G,z8pa,z7pa,z0ua,z4mb,kT,kF,h370,f1,f2,tl,z9pa]
 ·have d1:decide ((m:Int)=(n:Int))=false:=decide_eq_false (by omega)
  have d3:((m:Int)==(n:Int))=false:=beq_false_of_ne (by omega)
  have h2:2≤n:=by omega
  have hs:=z1H h2
  have hps:=z5v n
  have hw:=z5pb h2
  generalize hQf:z6va z0ua.res (z2Vb n m w q l)=Qf
  simp(maxSteps:=1000000) (disch:=first|omega|simp;done|simp;omega) [z7G,z8pa,z7pa,z0ua,z4mb,z6Cb,kT,kF,d1,d3]
  refine z1g fun Q1 hQ1=> ?_
  refine z2v (fun i:Nat=>⟨[(0,i64 n),(1,i64 m),(2,bo w),(3,.sl .plain nq q.length (bys (dgs q))),(4,.sl .plain nl l.length (bys (dgs l)))],[(11,i64 ((2^i:Nat):Int))],[]⟩) (fun i=>n-2^i) (fun i=>2^i<n) 0 (by simp) (by simp;omega) fun i hi=> ?_
  refine z1g fun Q2 hQ2=> ?_
  have hp2:2^(i+1)=2*2^i:=by rw[Nat.pow_succ];omega
  have hpos2:=Nat.two_pow_pos i
  by_cases c:2*2^i<n
  ·have dc:decide (2*((2^i:Nat):Int)<(n:Int))=true:=decide_eq_true (by omega)
   generalize hK:2^i=k at*
   simp(maxSteps:=1000000) (disch:=first|omega|simp;done|simp;omega) [z7G,z2kb,z8kb,kT,kF,dc,hQ2]
   exact⟨i+1,by rw[hp2];omega,by rw[hp2];omega,by have:=congrArg (fun x:Nat=>(x:Int)) hp2;simp at this;omega⟩
  ·have hk:spl n=2^i:=z6Bd hi (by omega)
   have dc:decide (2*((2^i:Nat):Int)<(n:Int))=false:=decide_eq_false (by omega)
   generalize hK:2^i=k at*
   simp(maxSteps:=1000000) (disch:=first|omega|simp;done|simp;omega) [z7G,z2kb,z8kb,kT,kF,dc,hQ2,hQ1]
   have hN':n<N+1:=hN
   rw[←hQf,z2Vb,z7Yb ⟨h2,he⟩,hk]
   by_cases hm:m≤k
   ·have dm:decide ((k:Int)<(m:Int))=false:=decide_eq_false (by omega)
    have hle:(l.take (k-m)).length=k-m:=by rw[List.length_take];omega
    have hld:(l.drop (k-m)).length=n-k:=by rw[List.length_drop];omega
    have ok1:z2cc k m q (l.take (k-m)):=⟨hm1,by omega,by omega,h.q16,z4v h.l16 _,h.qo⟩
    have i1:((k:Int)-(m:Int)).toNat=k-m:=by omega
    have c1:((n:Int)-((n:Int)-(k:Int)))=(k:Int):=by omega
    have hp0:=z9Ob (w:=w) (nq:=nq) (nl:=nl) ok1
    have hq0:=z0kb (w:=w) (nq:=nq) (nl:=nl) ok1
    simp only[z5Aa,hle] at hp0 hq0
    have hp1:(z6Bb z44b z0Ac N).pre [i64 (k:Int),i64 (m:Int),bo w,.sl .plain nq q.length (bys (dgs q)),.sl .plain nl (k-m) (bys (dgs (l.take (k-m))))]=True:=eq_true ⟨of_eq_true hp0,by show k<N;omega⟩
    have hq1:(z6Bb z44b z0Ac N).post [i64 (k:Int),i64 (m:Int),bo w,.sl .plain nq q.length (bys (dgs q)),.sl .plain nl (k-m) (bys (dgs (l.take (k-m))))]=z2Vb k m w q (l.take (k-m)):=hq0
    have hl2:l.length-(k-m)=n-k:=by omega
    have r1:z2Ua.pre [.sl .plain nl (n-k) (bys (dgs (l.drop (k-m))))]=True:=z2db (z44a h.l16 _) (by omega) hld.symm rfl
    have r2:z2Ua.post [.sl .plain nl (n-k) (bys (dgs (l.drop (k-m))))]= .agg (bys (z9ia (l.drop (k-m)))):=z6Oa (z44a h.l16 _) hld.symm rfl
    have rl:=z0Xa (l.drop (k-m))
    have t1:=z63a h.l16 (k-m)
    have t2:=z7Ab h.l16 (k-m)
    have t3:List.take ((n-k)*16) (bys (dgs (l.drop (k-m))))=bys (dgs (l.drop (k-m))):=List.take_of_length_le (by simp only[bys,List.length_map];rw[z2ua (z44a h.l16 _),hld];exact Nat.le_refl _)
    have hnl:z0vb n m w=none:=by simp[z0vb,he]
    rw[if_pos hm,hnl]
    have hPl:=z3wb k m w q (l.take (k-m)) hm1 hm
    generalize hP:prf k m w q (l.take (k-m))=P at*
    generalize hR:z9ia (l.drop (k-m))=R at*
    rw[z2Vb,hP] at hq1
    simp(maxSteps:=1000000) (disch:=first|omega|simp;done|simp;omega) [z7G,z3kb,z2Db,kT,kF,dm,h352,i1,hdl,hp1,hq1,hl2,h168,r1,r2,rl,t1,t2,t3,z9pa,z7rb,←hQf,z0ua,z8pa]
    exact⟨⟨hm,by omega⟩,by omega,by omega⟩
   ·have dm:decide ((k:Int)<(m:Int))=true:=decide_eq_true (by omega)
    have ho':oN m=oN (m-k)+1:=by
     have:=z0Vc (k:=Nat.log2 (n-1)) (m:=m-spl n) (by change m-spl n<spl n;omega)
     rw[show 2^Nat.log2 (n-1)+(m-spl n)=m by change spl n+(m-spl n)=m;omega,hk] at this
     exact this
    have htl:q.tail.length=q.length-1:=List.length_tail
    have ok2:z2cc (n-k) (m-k) q.tail l:=⟨by omega,by omega,by omega,fun d hd=>h.q16 d (List.mem_of_mem_tail hd),h.l16,by rw[htl,h.qo];omega⟩
    have c1:((n-k:Nat):Int)=(n:Int)-(k:Int):=by omega
    have c2:((m-k:Nat):Int)=(m:Int)-(k:Int):=by omega
    have hp0:=z9Ob (w:=false) (nq:=nq) (nl:=nl) ok2
    have hq0:=z0kb (w:=false) (nq:=nq) (nl:=nl) ok2
    simp only[z5Aa,htl,c1,c2] at hp0 hq0
    have hp1:(z6Bb z44b z0Ac N).pre [i64 ((n:Int)-(k:Int)),i64 ((m:Int)-(k:Int)),bo false,.sl .plain nq (q.length-1) (bys (dgs q.tail)),.sl .plain nl l.length (bys (dgs l))]=True:=eq_true ⟨of_eq_true hp0,by show((n:Int)-(k:Int)).toNat<N;omega⟩
    have hq1:(z6Bb z44b z0Ac N).post [i64 ((n:Int)-(k:Int)),i64 ((m:Int)-(k:Int)),bo false,.sl .plain nq (q.length-1) (bys (dgs q.tail)),.sl .plain nl l.length (bys (dgs l))]=z2Vb (n-k) (m-k) false q.tail l:=hq0
    have hnl:z0vb n m w=none:=by simp[z0vb,he]
    obtain⟨a,q',rfl⟩:∃a q',q=a::q':=by
     cases q with
     |nil=>simp at hqp
     |cons a q'=>exact⟨a,q',rfl⟩
    simp only[List.length_cons,Nat.add_sub_cancel,List.tail_cons] at hp1 hq1
    have hal:=(z1u.1 h.q16).1
    have t1:List.take (q'.length*16) (dgs q')=dgs q':=List.take_of_length_le (by rw[z2ua (z1u.1 h.q16).2];exact Nat.le_refl _)
    have t2:List.take 16 (dgs (a::q'))=a:=by rw[show dgs (a::q')=a++dgs q' by simp[dgs],List.take_left' hal]
    rw[if_neg hm,hnl,List.headD_cons,List.tail_cons]
    have hPl:=z3wb (n-k) (m-k) false q' l (by omega) (by omega)
    generalize hP:prf (n-k) (m-k) false q' l=P at*
    rw[z2Vb,hP] at hq1
    simp(maxSteps:=1000000) (disch:=first|omega|simp;done|simp;omega) [z7G,z3kb,kT,kF,dm,h352,hdq,hp1,hq1,t1,t2,hal,z9pa,z7rb,←hQf,z0ua,z8pa]
    exact⟨by omega,by omega,by omega⟩
end Go.Abs
end

section
namespace Go.Abs
set_option maxRecDepth 100000
set_option maxHeartbeats 8000000
def z2S (l:z0n) (m:Int):List (List UInt8)×Nat:=if m<1∨m<l.size∨(l.len:Int)<m then([],11) else(prf l.len m.toNat true (z6r l.size l.roots (z3h (l.ents.take (m.toNat-l.size)))) (z3h (l.ents.drop (m.toNat-l.size))),0)
def z5Gc:z1f:=⟨fun ds=>∃(l:z0n) (m:Int),l.ok∧z2e m∧ds=[z4Ca none none l,i64 m],fun ds=> .tup [z5Aa none (z2S (z5Cb (nth ds 0)) (asI (nth ds 1))).1,i64 ((z2S (z5Cb (nth ds 0)) (asI (nth ds 1))).2:Int)]⟩
theorem z0xc {l:z0n} {m:Int} (h:l.ok) (hm:z2e m):z5Gc.pre [z4Ca none none l,i64 m]=True:=eq_true ⟨l,m,h,hm,rfl⟩
theorem z5Gb {l:z0n} (m:Int) (h:l.ok):z5Gc.post [z4Ca none none l,i64 m]= .tup [z5Aa none (z2S l m).1,i64 ((z2S l m).2:Int)]:=by
 show z0a.tup [z5Aa none (z2S (z5Cb (z4Ca none none l)) m).1,i64 ((z2S (z5Cb (z4Ca none none l)) m).2:Int)]=_
 rw[z7Gb h]
theorem z9m (l:List z2n):(z3h l).length=l.length:=List.length_map _
theorem z6Td (E:Env) (h349:E.G 349=z7mb) (h348:E.G 348=z34b) (h350:E.G 350=z3Zc) (h351:E.G 351=z3rd) (h352:E.G 352=z44b):∀ds,z5Gc.pre ds→ds.length=z2Ca.n∧awp E z2Ca.body (z6va z2Ca.res (z5Gc.post ds)) (z4H z2Ca.wr ds):=by
 rintro _ ⟨l,m,h,hm,rfl⟩
 rw[z5Gb m h]
 have hs:=h.s
 have hn:=h.n
 have hll:l.len=l.size+l.ents.length:=rfl
 have p3:z7mb.pre [z4Ca none none l]=True:=z3fb h
 have p4:z7mb.post [z4Ca none none l]=i64 (l.len:Int):=z1Oa h
 have q1:=z2sb h hm
 have q2:=z9Xa m h
 by_cases c0:m<1
 ·rw[z2S,if_pos (.inl c0)]
  simp only[z4Ca,z5Aa,z5sa] at p3 p4⊢
  have d1:decide (m<1)=true:=decide_eq_true c0
  simp(maxSteps:=1000000) (disch:=first|omega|simp;done|simp;omega) [z7G,z8pa,z7pa,z2Ca,kT,kF,d1]
  skip
 ·have d1:decide (m<1)=false:=decide_eq_false c0
  by_cases c:m<l.size∨(l.len:Int)<m
  ·rw[z8rb,if_pos c] at q2
   rw[z2S,if_pos (by omega)]
   simp only[z4Ca,z5Aa,z5sa,pkA] at p3 p4 q1 q2⊢
   simp(maxSteps:=1000000) (disch:=first|omega|simp;done|simp;omega) [z7G,z8pa,z7pa,z2Ca,z78a,kT,kF,d1,h348,q1,q2,z4wa,z2wa]
   skip
  ·rw[z8rb,if_neg c] at q2
   rw[z2S,if_neg (by omega)]
   have i1:(m-(l.size:Int)).toNat=m.toNat-l.size:=by omega
   have hlen:=z4ta h.e
   have hdr:=z0cb h.e (m.toNat-l.size)
   have hld:(l.ents.drop (m.toNat-l.size)).length=l.ents.length-(m.toNat-l.size):=List.length_drop
   have hsd:z2vb (l.ents.drop (m.toNat-l.size)):=fun x hx=>h.e x (List.mem_of_mem_drop hx)
   have hle:(l.ents.take (m.toNat-l.size)).length=m.toNat-l.size:=by rw[List.length_take];omega
   have k1:z3Zc.pre [.sl .plain none (l.ents.length-(m.toNat-l.size)) (z6ra (l.ents.drop (m.toNat-l.size)))]=True:=eq_true ⟨none,_,_,by rw[z4ta hsd,hld],by simp,rfl⟩
   have k2:z3Zc.post [.sl .plain none (l.ents.length-(m.toNat-l.size)) (z6ra (l.ents.drop (m.toNat-l.size)))]= .fn 372 [] [.ep [.sl .plain none (l.ents.length-(m.toNat-l.size)) (z6ra (l.ents.drop (m.toNat-l.size)))]]:=rfl
   have k3:z3rd.pre [.fn 372 [] [.ep [.sl .plain none (l.ents.length-(m.toNat-l.size)) (z6ra (l.ents.drop (m.toNat-l.size)))]]]=True:=eq_true ⟨none,_,hsd,by omega,by rw[z5sa,hld]⟩
   have k4:z3rd.post [.fn 372 [] [.ep [.sl .plain none (l.ents.length-(m.toNat-l.size)) (z6ra (l.ents.drop (m.toNat-l.size)))]]]= .sl (.own 16) none (l.ents.length-(m.toNat-l.size)) (bys (dgs (z3h (l.ents.drop (m.toNat-l.size))))):=by
    have e:z0a.fn 372 [] [.ep [.sl .plain none (l.ents.length-(m.toNat-l.size)) (z6ra (l.ents.drop (m.toNat-l.size)))]]= .fn 372 [] [.ep [z5sa none (l.ents.drop (m.toNat-l.size))]]:=by rw[z5sa,hld]
    show z7rb none (z3h (gFe (.fn 372 [] [.ep [.sl .plain none (l.ents.length-(m.toNat-l.size)) (z6ra (l.ents.drop (m.toNat-l.size)))]])))=_
    rw[e,z9Cc hsd,z7rb,z9m,hld]
   have htk:List.take ((l.ents.length-(m.toNat-l.size))*30) (z6ra (l.ents.drop (m.toNat-l.size)))=z6ra (l.ents.drop (m.toNat-l.size)):=List.take_of_length_le (by rw[z4ta hsd,hld];exact Nat.le_refl _)
   have hA:z9n (z6r l.size l.roots (z3h (l.ents.take (m.toNat-l.size)))):=z6v h.r
   have hAl:(z6r l.size l.roots (z3h (l.ents.take (m.toNat-l.size)))).length=oN m.toNat:=by
    rw[z7o _ h.o,z9m,hle];congr 1;omega
   have ok:z2cc l.len m.toNat (z6r l.size l.roots (z3h (l.ents.take (m.toNat-l.size)))) (z3h (l.ents.drop (m.toNat-l.size))):=⟨by omega,by rw[z9m,hld];omega,by omega,hA,z3Vb _,hAl⟩
   have em:((m.toNat:Nat):Int)=m:=by omega
   have f1:=z9Ob (w:=true) (nq:=none) (nl:=none) ok
   have f2:=z0kb (w:=true) (nq:=none) (nl:=none) ok
   have ta:∀(bx:Nat→List z0a) (cs:List z0a),z1k bx (.ep cs)= .ep cs:=fun _ _=>rfl
   have oa:z0d [] (fun _=>none) (.fn 372 [] [.ep [.sl .plain none (l.ents.length-(m.toNat-l.size)) (z6ra (l.ents.drop (m.toNat-l.size)))]])=True:=eq_true ⟨by simp,by simp[z8e]⟩
   have hnl:z0vb l.len m.toNat true=none:=by simp[z0vb]
   rw[z2Vb,hnl] at f2
   simp only[z4Ca,z5Aa,z5sa,pkA,z9m,hld,em] at p3 p4 q1 q2 f1 f2⊢
   generalize z6r l.size l.roots (z3h (l.ents.take (m.toNat-l.size)))=A at*
   generalize z3h (l.ents.drop (m.toNat-l.size))=B at*
   have hPl:=z3wb l.len m.toNat true A B (by omega) (by omega)
   generalize prf l.len m.toNat true A B=P at*
   simp(maxSteps:=1000000) (disch:=first|omega|simp;done|simp;omega) [z7G,z8pa,z7pa,z2Ca,z78a,z8tb,kT,kF,d1,h348,h349,h350,h351,h352,p3,p4,q1,q2,k1,k2,k3,k4,f1,f2,i1,hlen,hdr,htk,z4wa,z2wa,z7rb,ta,oa]
   exact⟨by omega,by omega⟩
end Go.Abs
end

section
namespace Go.Abs
theorem z1cc:∀(k n m:Nat) (w:Bool) (q l:List (List UInt8)),1≤m→m≤n→n≤2^k→(prf n m w q l).length≤k+1
 |k,n,m,w,q,l,h1,h2,h3=>by
  by_cases he:m=n
  ·rw[z73b he];cases w<;>simp
  ·have h2':2≤n:=by omega
   have hs:=z1H h2'
   have hw:=z5pb h2'
   cases k with
   |zero=>simp at h3;omega
   |succ k=>
    have hk:spl n≤2^k:=by
     by_cases hc:spl n≤2^k
     ·exact hc
     ·exfalso
      have e:spl n=2^Nat.log2 (n-1):=rfl
      rw[e] at hc hs
      have:=(Nat.pow_lt_pow_iff_right (a:=2) (by decide)).1 (Nat.lt_of_not_le hc)
      have h4:2^(k+1)≤2^Nat.log2 (n-1):=Nat.pow_le_pow_right (by decide) this
      omega
    rw[z7Yb ⟨h2',he⟩]
    split
    ·have:=z1cc k (spl n) m w q (l.take (spl n-m)) h1 (by omega) hk
     rw[List.length_append,List.length_singleton];omega
    ·have:=z1cc k (n-spl n) (m-spl n) false q.tail l (by omega) (by omega) (by rw[Nat.pow_succ] at h3;omega)
     rw[List.length_append,List.length_singleton];omega
theorem z99c {n:Int} {q:List (List UInt8)} (h0:1≤n) (h1:n≤4294967296) (hq:q.length=oN n.toNat):z06b n q=(z6qc q,0):=by
 have ho:okP n q.length=true:=by simp[okP,hq];omega
 rw[z06b,if_pos ho,if_neg (by omega)];rfl
def z4w (l:z0n) (m:Int):List (List UInt8):=z6r l.size l.roots (z3h (l.ents.take (m.toNat-l.size)))
def z32 (l:z0n) (m:Int):List (List UInt8):=z3h (l.ents.drop (m.toNat-l.size))
theorem z1Z {l:z0n} (h:l.ok) (m:Int):z9n (z4w l m):=z6v h.r
theorem z4M {l:z0n} (h:l.ok) {m:Int} (h2:(l.size:Int)≤m) (h3:m≤(l.len:Int)):(z4w l m).length=oN m.toNat:=by
 have hll:l.len=l.size+l.ents.length:=rfl
 have hle:(l.ents.take (m.toNat-l.size)).length=m.toNat-l.size:=by rw[List.length_take];omega
 rw[z4w,z7o _ h.o,z9m,hle];congr 1;omega
theorem z9Qc {l:z0n} (h:l.ok):(z6r l.size l.roots (z3h l.ents)).length=oN l.len:=by rw[z7o _ h.o,z9m];rfl
theorem z9Ed {l:z0n} (h:l.ok) (h1:1≤l.len):z86c l=z6qc (z6r l.size l.roots (z3h l.ents)):=by
 have hs:=h.s
 have hll:l.len=l.size+l.ents.length:=rfl
 rw[z86c,z99c (by omega) (by omega) (by rw[z9Qc h,Int.toNat_natCast])]
theorem z4Sd {l:z0n} (h:l.ok):(z86c l).length=16:=by
 have hs:=h.s
 have hll:l.len=l.size+l.ents.length:=rfl
 have hl:=z9Qc h
 by_cases h1:1≤l.len
 ·rw[z9Ed h h1];exact z9La (z6v h.r) (by rw[hl];exact z4Sb h1) _
 ·have h0:l.len=0:=by omega
  rw[z86c,z06b,if_pos (by simp[okP,hl];omega),if_pos (by rw[h0];rfl)]
  exact z0Xa []
theorem z3s {l:z0n} {m:Int} (h1:1≤m) (h2:(l.size:Int)≤m) (h3:m≤(l.len:Int)):z2S l m=(prf l.len m.toNat true (z4w l m) (z32 l m),0):=by
 rw[z2S,if_neg (by omega)];rfl
theorem z5Rb {l:z0n} {m:Int} (h2:(l.size:Int)≤m) (h3:m≤(l.len:Int)):z8rb l m=((m,z4w l m),0):=by
 rw[z8rb,if_neg (by omega)];rfl
theorem z9Dd {l:z0n} (m:Int) (h2:(l.size:Int)≤m) (h3:m≤(l.len:Int)):m.toNat+(z32 l m).length=l.len:=by
 have hll:l.len=l.size+l.ents.length:=rfl
 rw[z32,z9m,List.length_drop];omega
theorem z4md {l:z0n} (h:l.ok) (m:Int):z9n (z2S l m).1:=by
 unfold z2S
 split
 ·exact z6z
 ·rename_i hc
  exact z8Qc _ _ _ _ _ (z1Z h m) (z4M h (by omega) (by omega)) (by omega) (z9Dd m (by omega) (by omega))
theorem z55c {l:z0n} (h:l.ok) (m:Int):(z2S l m).1.length≤17:=by
 have hs:=h.s
 have hll:l.len=l.size+l.ents.length:=rfl
 unfold z2S
 split
 ·exact Nat.zero_le _
 ·rename_i hc
  exact z1cc 16 _ _ _ _ _ (by omega) (by omega) (by omega)
def z0fe (l:z0n) (x:z2n):z0n:=⟨l.size,l.roots,l.ents++[x]⟩
theorem z20d {l:z0n} {x:z2n} (h:l.ok) (hx:x.small) (h1:l.ents.length<1000) (h2:l.len<62000):(z0fe l x).ok:=by
 have hll:l.len=l.size+l.ents.length:=rfl
 refine⟨h.r,h.o,fun y hy=> ?_,by simp[z0fe];omega,by simp[z0fe];omega⟩
 rcases List.mem_append.1 hy with hy|hy
 ·exact h.e y hy
 ·rw[List.mem_singleton.1 hy];exact hx
theorem z8Xc (l:z0n) (x:z2n):(∃e:Nat,1≤e∧e≤20∧z9Kb l x=(⟨0,[],[]⟩,e))∨z9Kb l x=(z0fe l x,0):=by
 unfold z9Kb
 split
 ·exact .inl ⟨1,by omega,by omega,rfl⟩
 ·split
  ·exact .inl ⟨20,by omega,by omega,rfl⟩
  ·exact .inr rfl
end Go.Abs
end
