/- Lemmas: an abstract interpreter, and what the functions compute. -/
import Derived.Test.YtepddcbbkhdfiaaGreatDoorO
import Derived.Test.YtepddcbbkhdfiaaGreatDoorN
import Derived.Test.YtepddcbbkhdfiaaGreatDoorC
set_option linter.unusedSimpArgs false
set_option linter.unusedVariables false
set_option linter.unusedSectionVars false
section
namespace Go.Abs
end Go.Abs
end

section
namespace Go.Abs
attribute [local simp] z1u fnd wIn z4m z0T
end Go.Abs
end

section
namespace Go.Abs
end Go.Abs
end

section
namespace Go.Abs
end Go.Abs
end

section
namespace Go.Abs
def z5r:Nat→List (List UInt8)→List (List UInt8)→List (List UInt8)
 |_,q,[]=>q
 |n,q,d::l=>z5r (n+1) (z9ca q d (t1N n)) l
theorem z0q:∀(a b:List (List UInt8)) (n:Nat) (q:List (List UInt8)),z5r n q (a++b)=z5r (n+a.length) (z5r n q a) b
 |[],_,_,_=>rfl
 |d::a,b,n,q=>by
  rw[List.cons_append,z5r,z5r,z0q a b,List.length_cons,show n+1+a.length=n+(a.length+1) by omega]
theorem z2N (n:Nat):oN (n+1)+t1N n=oN n+1:=by
 induction n using Nat.strongRecOn with
 |ind n ih=>
  by_cases h:n% 2=1
  ·have:=ih (n/2) (by omega)
   rw[z9r h,z6u n,z6u (n+1),show(n+1)/2=n/2+1 by omega]
   omega
  ·rw[z8o (by omega),z6u n,z6u (n+1),show(n+1)/2=n/2 by omega]
   omega
theorem z3C {q:List (List UInt8)} {n:Nat} (d:List UInt8) (h:q.length=oN n):(z9ca q d (t1N n)).length=oN (n+1):=by
 have h1:=z2u n
 have h2:=z2N n
 rw[z9ca,List.length_append,List.length_take,List.length_singleton]
 omega
theorem z7o:∀(l:List (List UInt8)) {q:List (List UInt8)} {n:Nat},q.length=oN n→(z5r n q l).length=oN (n+l.length)
 |[],_,_,h=>h
 |d::l,q,n,h=>by
  rw[z5r,z7o l (z3C d h),List.length_cons,show n+1+l.length=n+(l.length+1) by omega]
theorem z0I {q:List (List UInt8)} (d:List UInt8):∀t,(z6ja q d t).length=16
 |0=>z0e _ _
 |_+1=>z0e _ _
theorem z5v:∀{l q:List (List UInt8)} {n:Nat},z9n q→z9n (z5r n q l)
 |[],_,_,h=>h
 |d::l,q,n,h=>z5v (l:=l) (by rw[z9ca];exact z2y.2 ⟨z3v h _,z0u.2 ⟨z0I d _,z5z⟩⟩)
def z3Gc (q:List (List UInt8)):List UInt8:=z0kc q (q.length-1)
def prf (n m:Nat) (w:Bool) (q l:List (List UInt8)):List (List UInt8):=
 if h:2≤n∧m≠n then(if m≤spl n then prf (spl n) m w q (l.take (spl n-m))++[z9ia (l.drop (spl n-m))] else prf (n-spl n) (m-spl n) false q.tail l++[q.headD []]) else if w then [] else [z3Gc q]
termination_by n
decreasing_by
 ·exact z0H h.1
 ·have:=z4v n;omega
theorem z93b {n m:Nat} (h:2≤n∧m≠n) (w:Bool) (q l:List (List UInt8)):prf n m w q l=if m≤spl n then prf (spl n) m w q (l.take (spl n-m))++[z9ia (l.drop (spl n-m))] else prf (n-spl n) (m-spl n) false q.tail l++[q.headD []]:=by rw[prf,dif_pos h]
theorem z6ic {n m:Nat} (h:m=n) (w:Bool) (q l:List (List UInt8)):prf n m w q l=if w then [] else [z3Gc q]:=by rw[prf,dif_neg (fun h'=>h'.2 h)]
theorem z0Sb (n m:Nat) (w:Bool) (q l:List (List UInt8)) (h1:1≤m) (hn:m≤n):(prf n m w q l).length≤n:=by
 by_cases he:m=n
 ·rw[z6ic he];cases w<;>simp<;>omega
 ·have h2:2≤n:=by omega
  have hs:=z0H h2
  have hp:=z4v n
  rw[z93b ⟨h2,he⟩]
  split
  ·have:=z0Sb (spl n) m w q (l.take (spl n-m)) h1 (by omega)
   rw[List.length_append,List.length_singleton];omega
  ·have:=z0Sb (n-spl n) (m-spl n) false q.tail l (by omega) (by omega)
   rw[List.length_append,List.length_singleton];omega
termination_by n
decreasing_by
 all_goals omega
end Go.Abs
end

section
namespace Go.Abs
mutual
def fgN:z0a→z0a
 | .sl m _ n cs=> .sl m none n cs
 | .agg cs=> .agg (z7Gd cs)
 | .tup cs=> .tup (z7Gd cs)
 | .undef=> .undef
 | .lit x=> .lit x
 | .bp i o=> .bp i o
 | .bv i e o n c=> .bv i e o n c
 | .ep cs=> .ep cs
 | .fn f x y=> .fn f x y
 | .otup e nl n cs r=> .otup e nl n cs r
 | .oagg p e nl n cs r=> .oagg p e nl n cs r
def z7Gd:List z0a→List z0a
 |[]=>[]
 |c::cs=>fgN c::z7Gd cs
end
theorem z5lc {K:Con} {S:Nat→Nat} {w:World} {m:z4r} {nl:Option Bool} {n:Nat} {cs:List z0a} {v:Value} (h:z9b K S w (.sl m nl n cs) v):z9b K S w (.sl m none n cs) v:=by
 simp only[z9b] at h⊢
 rcases h with⟨b,o,cap,h1,h2,h3,_,h5⟩|⟨q,h1,h2,h3,_⟩
 ·exact .inl ⟨b,o,cap,h1,h2,h3,by simp,h5⟩
 ·exact .inr ⟨q,h1,h2,h3,by simp⟩
mutual
theorem z2fd {K:Con} {g:Gh} {w:World}:∀(d:z0a) (v:Value) (l:Option Loc),Rep K g w l d v→Rep K g w l (fgN d) v
 | .undef,_,_,h=>by simpa only[fgN] using h
 | .lit _,_,_,h=>by simpa only[fgN] using h
 | .bp _ _,_,_,h=>by simpa only[fgN] using h
 | .bv _ _ _ _ _,_,_,h=>by simpa only[fgN] using h
 | .ep _,_,_,h=>by simpa only[fgN] using h
 | .fn _ _ _,_,_,h=>by simpa only[fgN] using h
 | .otup _ _ _ _ _,_,_,h=>by simpa only[fgN] using h
 | .oagg _ _ _ _ _ _,_,_,h=>by simpa only[fgN] using h
 | .sl .plain nl n cs,v,l,h=>by
  simp only[fgN,Rep] at h⊢;exact z5lc h
 | .sl .clip nl n cs,v,l,h=>by
  simp only[fgN,Rep] at h⊢;exact z5lc h
 | .sl (.own e) nl n cs,v,l,h=>by
  simp only[fgN,Rep] at h⊢;exact⟨z5lc h.1,h.2⟩
 | .agg cs,v,l,h=>by
  simp only[fgN,Rep] at h⊢
  obtain⟨a,rfl,h⟩:=h
  exact⟨a,rfl,z5mc cs _ h⟩
 | .tup cs,v,l,h=>by
  simp only[fgN,Rep] at h⊢
  obtain⟨a,rfl,h⟩:=h
  exact⟨a,rfl,z5mc cs _ h⟩
theorem z5mc {K:Con} {g:Gh} {w:World}:∀(cs:List z0a) (vs:List Value),z2b K g w cs vs→z2b K g w (z7Gd cs) vs
 |[],_,h=>by simpa only[z7Gd] using h
 |c::cs,vs,h=>by
  simp only[z7Gd,z2b] at h⊢
  obtain⟨x,xs,rfl,h1,h2⟩:=h
  exact⟨x,xs,rfl,z2fd c x none h1,z5mc cs xs h2⟩
end
def fgC (c:z1f):z1f:=⟨c.pre,fun ds=>fgN (c.post ds)⟩
theorem z53c {K:Cx} {f:Nat} {c:z1f} (h:z1a K f c):z1a K f (fgC c):=by
 refine⟨h.1,fun S w ds vs hg hd hp=>(h.2 S w ds vs hg hd hp).mono ?_⟩
 rintro e w' ⟨v,g',h1,h2,h3,h4⟩
 exact⟨v,g',h1,h2,z2fd _ _ _ h3,h4⟩
end Go.Abs
end

section
namespace Go.Abs
set_option maxRecDepth 100000
set_option maxHeartbeats 8000000
def z5kd (s:Nat) (q:List (List UInt8)) (es:List z2n):z0a:= .tup [pkA ((s+es.length:Nat):Int) none (z5r s q (z3h es)),i64 0]
def z83c:z1f:=⟨fun ds=>∃(s:Nat) (ne:Option Bool) (q:List (List UInt8)) (es:List z2n),z9n q∧q.length=oN s∧z3Ab es∧es.length≤1000∧s+es.length≤62000∧ds=[pkA (s:Int) none q,z5ta ne es],
 fun ds=>z5kd (gPn (nth ds 0)).toNat (gPl (nth ds 0)) (z9xb (gNn (nth ds 1)) (gCs (nth ds 1)))⟩
theorem z0rd {s:Nat} {ne:Option Bool} {q:List (List UInt8)} {es:List z2n} (h:z9n q) (ho:q.length=oN s) (he:z3Ab es) (h1:es.length≤1000) (h2:s+es.length≤62000):z83c.pre [pkA (s:Int) none q,z5ta ne es]=True:=eq_true ⟨s,ne,q,es,h,ho,he,h1,h2,rfl⟩
theorem z6vc {s:Nat} {ne:Option Bool} {q:List (List UInt8)} {es:List z2n} (h:z9n q) (he:z3Ab es):z83c.post [pkA (s:Int) none q,z5ta ne es]=z5kd s q es:=by
 show z5kd (gPn (pkA (s:Int) none q)).toNat (gPl (pkA (s:Int) none q)) (z9xb es.length (z0sa es))=_
 rw[z4kb he,show gPn (pkA (s:Int) none q)=(s:Int) from rfl,show gPl (pkA (s:Int) none q)=gDs (.sl .plain none q.length (bys (dgs q))) from rfl,z1Ja h,Int.toNat_natCast]
theorem z2ec (n:Nat):oN n≤n:=by
 induction n using Nat.strongRecOn with
 |ind n ih=>
  rw[z6u]
  by_cases h:n=0
  ·subst h;rw[show 0/2=0 from rfl,z7K];simp
  ·have:=ih (n/2) (by omega);omega
theorem z1Qc {s:Nat} {q:List (List UInt8)} {d:List UInt8} (h:z9n q) (ho:q.length=oN s) (hs:s≤62000):(fgC z6Gc).post [.agg [i64 (s:Int),.sl .plain none q.length (bys (dgs q))],.agg (bys d)]= .tup [.agg [i64 ((s+1:Nat):Int),.sl .plain none (z9ca q d (t1N s)).length (bys (dgs (z9ca q d (t1N s))))],i64 0]:=by
 have h1:z5Gc (s:Int) q d=(((s:Int)+1,z9ca q d (t1N s)),0):=by
  rw[z5Gc,if_pos ⟨by simp[okP,ho];omega,by omega⟩,Int.toNat_natCast]
 show fgN (z6Gc.post _)=_
 rw[z09b h rfl rfl,h1]
 rw[show((s+1:Nat):Int)=(s:Int)+1 by simp]
 rfl
theorem z1tc {es:List z2n} (h:z3Ab es) {i:Nat} (hi:i<es.length):z1Kb (z0sa es) i= .agg (z0va none none none es[i]):=by rw[z1Kb,z7Eb h hi]
theorem z0tc {es:List z2n} (h:z3Ab es) (h1:es.length≤1000) (nl:Option Bool):(z2sc z3Gb).pre [] [.ep [.sl .plain nl es.length (z0sa es)]]:=
 ⟨rfl,nl,es.length,z0sa es,z3xa h,by omega,fun d hd=>by
  obtain⟨x,_,hx⟩:=List.mem_flatMap.1 hd
  exact⟨(z2Cb es d hd).1,(z2Cb es d hd).2,(z6rc d hx).2⟩,fun i hi=>by
  rw[z1tc h hi]
  have hs:=h _ (List.getElem_mem hi)
  rw[z9Qb hs]
  exact⟨of_eq_true (z60c hs),by simp,rfl,by simp[yOk],by simp⟩,rfl⟩
theorem z6Tc {es:List z2n} (h:z3Ab es) (nl:Option Bool) (i:Nat):(z2sc z3Gb).el [] [.ep [.sl .plain nl es.length (z0sa es)]] i=if hi:i<es.length then some [.agg (bys (z0f 8 [z5Wb es[i]]))] else none:=by
 rw[z9Lc]
 by_cases hi:i<es.length
 ·rw[if_pos hi,dif_pos hi,z1tc h hi,z9Qb (h _ (List.getElem_mem hi))]
 ·rw[if_neg hi,dif_neg hi]
theorem z1Ud (E:Env) (h350:E.G 350=z2Sc) (h182:E.G 182=fgC z6Gc) (hI:E.I 372=z2sc z3Gb):∀ds,z83c.pre ds→ds.length=z4ua.n∧awp E z4ua.body (z4xa z4ua.res (z83c.post ds)) (z4H z4ua.wr ds):=by
 rintro _ ⟨s,ne,q,es,hq,ho,he,h1,h2,rfl⟩
 rw[z6vc hq he]
 unfold pkA z3Ea z5ta
 have p1:z2Sc.pre [.sl .plain ne es.length (z0sa es)]=True:=eq_true ⟨ne,es.length,z0sa es,z3xa he,by simp,rfl⟩
 have p2:z2Sc.post [.sl .plain ne es.length (z0sa es)]= .fn 372 [] [.ep [.sl .plain ne es.length (z0sa es)]]:=rfl
 generalize hQf:z4xa z4ua.res (z5kd s q es)=Qf
 simp(maxSteps:=1000000) (disch:=first|omega|(simp;done)|(simp;omega)) [z6G,z4ua,h350,p1,p2]
 have hel:=z6Tc he ne
 have hpre:=z0tc he h1 ne
 have hdl:(z3h es).length=es.length:=by simp[z3h]
 refine z1g fun Q1 hQ1=> ?_
 have hA:∀i,z9n (z5r s q ((z3h es).take i)):=fun i=>z5v hq
 have hAl:∀i,i≤es.length→(z5r s q ((z3h es).take i)).length=oN (s+i):=fun i hi=>by
  rw[z7o _ ho,List.length_take,hdl,Nat.min_eq_left hi]
 refine z7tb [] [.ep [.sl .plain ne es.length (z0sa es)]] (by simp) (by simp) (by rw[hI];rfl) (by rw[hI];exact hpre) (by simp) es.length (fun i bx=>i≤es.length∧bx=[(2,some [i64 ((s+i:Nat):Int),.sl .plain none (z5r s q ((z3h es).take i)).length (bys (dgs (z5r s q ((z3h es).take i))))]),(4,some [i64 0,.sl .plain none 0 []]),(5,some [i64 0]),(10,none)]) ⟨Nat.zero_le _,by simp[z5r]⟩ (fun i bx h=>h.1) (fun i bx h hn=> ?_) (fun i bx xs hi hx=> ?_)
 ·rw[hI,hel] at hn
  obtain⟨hi,rfl⟩:=h
  split at hn
  ·cases hn
  ·have hii:i=es.length:=by omega
   subst hii
   rw[List.take_of_length_le (by omega)]
   have hA1:=z3za (hA es.length)
   rw[List.take_of_length_le (by omega)] at hA1
   rw[hQ1]
   simp(maxSteps:=1000000) (disch:=first|omega|(simp;done)|(simp;omega)) [z6G,z3oa,z9t,z3wb,←hQf,z5kd,pkA,z3Ea,z4ua,z8za,z7za]
 ·rw[hI,hel] at hx
  obtain⟨hi,rfl⟩:=hi
  split at hx
  ·rename_i hlt
   have hx':=(Option.some.inj hx).symm
   subst hx'
   have dl:(z0f 8 [z5Wb es[i]]).length=16:=z0e _ _
   refine⟨rfl,by simp,fun V=> ?_⟩
   have hA1:=z3za (hA i)
   have ec:((s+i:Nat):Int)=(s:Int)+(i:Int):=by simp
   have ec1:((s+i+1:Nat):Int)=(s:Int)+(i:Int)+1:=by simp
   have pp:(fgC z6Gc).pre [.agg [i64 ((s+i:Nat):Int),.sl .plain none (z5r s q ((z3h es).take i)).length (bys (dgs (z5r s q ((z3h es).take i))))],.agg (bys (z0f 8 [z5Wb es[i]]))]=True:=z03c (nl:=none) ⟨by omega,by omega⟩ (hA i) (by have:=hAl i hi;have:=z2ec (s+i);omega) dl rfl rfl
   have pq:=z1Qc (s:=s+i) (d:=z0f 8 [z5Wb es[i]]) (hA i) (hAl i hi) (by omega)
   have hnx:z5r s q ((z3h es).take (i+1))=z9ca (z5r s q ((z3h es).take i)) (z0f 8 [z5Wb es[i]]) (t1N (s+i)):=by
    rw[show(z3h es).take (i+1)=(z3h es).take i++[z0f 8 [z5Wb es[i]]] by rw[List.take_succ_eq_append_getElem (by omega)];simp[z3h],z0q,List.length_take,hdl,Nat.min_eq_left hi]
    rfl
   rw[ec,ec1] at pq
   rw[ec] at pp
   rw[hnx]
   generalize z5r s q ((z3h es).take i)=A at*
   generalize z9ca A (z0f 8 [z5Wb es[i]]) (t1N (s+i))=B at*
   simp(maxSteps:=1000000) (disch:=first|omega|(simp;done)|(simp;omega)) [z6G,z3oa,z9t,z8wb,z4wb,dl,z0qa,h182,z8ya dl,pp,pq,kT,kF,z8za,z7za,z5yc,z5E]
   exact⟨by omega,by omega⟩
  ·cases hx
end Go.Abs
end

section
namespace Go.Abs
set_option maxRecDepth 100000
set_option maxHeartbeats 8000000
def z0Ob (l:z0n) (n:Int):(Int×List (List UInt8))×Nat:=if n<l.size∨(l.len:Int)<n then((0,[]),11) else((n,z5r l.size l.roots (z3h (l.ents.take (n.toNat-l.size)))),0)
def z7Mc:z1f:=⟨fun ds=>∃(l:z0n) (n:Int),l.ok∧z2e n∧ds=[z8Ja none none l,i64 n],fun ds=> .tup [pkA (z0Ob (z0Fb (nth ds 0)) (asI (nth ds 1))).1.1 none (z0Ob (z0Fb (nth ds 0)) (asI (nth ds 1))).1.2,i64 ((z0Ob (z0Fb (nth ds 0)) (asI (nth ds 1))).2:Int)]⟩
theorem z23b {l:z0n} {n:Int} (h:l.ok) (hn:z2e n):z7Mc.pre [z8Ja none none l,i64 n]=True:=eq_true ⟨l,n,h,hn,rfl⟩
theorem z3Eb {l:z0n} (n:Int) (h:l.ok):z7Mc.post [z8Ja none none l,i64 n]= .tup [pkA (z0Ob l n).1.1 none (z0Ob l n).1.2,i64 ((z0Ob l n).2:Int)]:=by
 show z0a.tup [pkA (z0Ob (z0Fb (z8Ja none none l)) n).1.1 none (z0Ob (z0Fb (z8Ja none none l)) n).1.2,i64 ((z0Ob (z0Fb (z8Ja none none l)) n).2:Int)]=_
 rw[z6Qb h]
theorem z7Pd (E:Env) (h349:E.G 349=z1Fb) (h180:E.G 180=z4gc) (h354:E.G 354=z83c):∀ds,z7Mc.pre ds→ds.length=z8Fa.n∧awp E z8Fa.body (z4xa z8Fa.res (z7Mc.post ds)) (z4H z8Fa.wr ds):=by
 rintro _ ⟨l,n,h,hn,rfl⟩
 rw[z3Eb n h]
 have hs:=h.s
 have p3:z1Fb.pre [z8Ja none none l]=True:=z6kb h
 have p4:z1Fb.post [z8Ja none none l]=i64 (l.len:Int):=z5Pa h
 have hll:l.len=l.size+l.ents.length:=rfl
 simp only[z8Ja,z3Ea,z5ta] at p3 p4⊢
 by_cases c1:n<l.size
 ·have hr:z0Ob l n=((0,[]),11):=by rw[z0Ob,if_pos (.inl c1)]
  have d1:decide (n<(l.size:Int))=true:=decide_eq_true c1
  rw[hr]
  simp(maxSteps:=1000000) (disch:=first|omega|(simp;done)|(simp;omega)) [z6G,z8Fa,pkA,z3Ea,d1,kT,kF,z8za,z7za]
 ·have d1:decide (n<(l.size:Int))=false:=decide_eq_false c1
  by_cases c2:(l.len:Int)<n
  ·have hr:z0Ob l n=((0,[]),11):=by rw[z0Ob,if_pos (.inr c2)]
   have d2:decide ((l.len:Int)<n)=true:=decide_eq_true c2
   rw[hr]
   simp(maxSteps:=1000000) (disch:=first|omega|(simp;done)|(simp;omega)) [z6G,z8Fa,pkA,z3Ea,d1,d2,h349,p3,p4,kT,kF,z8za,z7za]
  ·have hr:z0Ob l n=((n,z5r l.size l.roots (z3h (l.ents.take (n.toNat-l.size)))),0):=by rw[z0Ob,if_neg (by omega)]
   have d2:decide ((l.len:Int)<n)=false:=decide_eq_false c2
   have hlen:=z3xa h.e
   have htk:=z5Zb h.e (n.toNat-l.size)
   have hsm:z3Ab (l.ents.take (n.toNat-l.size)):=fun x hx=>h.e x (List.mem_of_mem_take hx)
   have hle:(l.ents.take (n.toNat-l.size)).length=n.toNat-l.size:=by rw[List.length_take];omega
   have q1:z83c.pre [pkA (l.size:Int) none l.roots,z5ta none (l.ents.take (n.toNat-l.size))]=True:=z0rd h.r h.o hsm (by have:=h.n;omega) (by omega)
   have q2:z83c.post [pkA (l.size:Int) none l.roots,z5ta none (l.ents.take (n.toNat-l.size))]=z5kd l.size l.roots (l.ents.take (n.toNat-l.size)):=z6vc h.r hsm
   have en:((l.size+(n.toNat-l.size):Nat):Int)=n:=by omega
   rw[z5kd,hle,en] at q2
   simp only[pkA,z3Ea,z5ta,hle] at q1 q2
   have i1:(n-(l.size:Int)).toNat=n.toNat-l.size:=by omega
   have k1:z4gc.pre [.sl .plain none l.roots.length (bys (dgs l.roots))]=True:=eq_true ⟨none,l.roots,h.r,by have:=h.o;have:=z2ec l.size;omega,rfl⟩
   have k2:z4gc.post [.sl .plain none l.roots.length (bys (dgs l.roots))]= .sl (.own 16) none l.roots.length (bys (dgs l.roots)):=by
    show z8Ab none (gDs (.sl .plain none l.roots.length (bys (dgs l.roots))))=_
    rw[z1Ja h.r];rfl
   rw[hr]
   simp(maxSteps:=1000000) (disch:=first|omega|(simp;done)|(simp;omega)) [z6G,z8Fa,z1xb,pkA,z3Ea,d1,d2,h349,p3,p4,kT,kF,z8za,z7za,h180,k1,k2,h354,i1,hlen,htk,q1,q2]
   exact⟨by omega,by omega⟩
def z3kc (l:z0n):List UInt8:=(z3tc l.len (z5r l.size l.roots (z3h l.ents))).1
def z6cc:z1f:=⟨fun ds=>∃l:z0n,l.ok∧ds=[z8Ja none none l],fun ds=> .agg (bys (z3kc (z0Fb (nth ds 0))))⟩
theorem z4vc {l:z0n} (h:l.ok):z6cc.pre [z8Ja none none l]=True:=eq_true ⟨l,h,rfl⟩
theorem z5Sb {l:z0n} (h:l.ok):z6cc.post [z8Ja none none l]= .agg (bys (z3kc l)):=by
 show z0a.agg (bys (z3kc (z0Fb (z8Ja none none l))))=_
 rw[z6Qb h]
theorem z5vd (E:Env) (h349:E.G 349=z1Fb) (h348:E.G 348=z7Mc) (h185:E.G 185=z5Zc):∀ds,z6cc.pre ds→ds.length=z6Va.n∧awp E z6Va.body (z4xa z6Va.res (z6cc.post ds)) (z4H z6Va.wr ds):=by
 rintro _ ⟨l,h,rfl⟩
 rw[z5Sb h]
 have hs:=h.s
 have hll:l.len=l.size+l.ents.length:=rfl
 have p3:z1Fb.pre [z8Ja none none l]=True:=z6kb h
 have p4:z1Fb.post [z8Ja none none l]=i64 (l.len:Int):=z5Pa h
 have q1:z7Mc.pre [z8Ja none none l,i64 (l.len:Int)]=True:=z23b h ⟨by omega,by omega⟩
 have q2:=z3Eb (l:=l) (l.len:Int) h
 have hp:z0Ob l (l.len:Int)=(((l.len:Int),z5r l.size l.roots (z3h l.ents)),0):=by
  rw[z0Ob,if_neg (by omega),Int.toNat_natCast,List.take_of_length_le (by omega)]
 rw[hp] at q2
 have hA:z9n (z5r l.size l.roots (z3h l.ents)):=z5v h.r
 have hAl:(z5r l.size l.roots (z3h l.ents)).length=oN l.len:=by rw[z7o _ h.o];simp[z3h,z0n.len]
 have t1:z5Zc.pre [.agg [i64 (l.len:Int),.sl .plain none (z5r l.size l.roots (z3h l.ents)).length (bys (dgs (z5r l.size l.roots (z3h l.ents))))]]=True:=z12c ⟨by omega,by omega⟩ hA (by have:=z2ec l.len;omega) rfl rfl
 have t2:=z3ec (n:=(l.len:Int)) (m:= .plain) (nl:=none) hA rfl rfl
 have ho:okP (l.len:Int) (z5r l.size l.roots (z3h l.ents)).length=true:=by simp[okP,hAl];omega
 have tl:(z3tc (l.len:Int) (z5r l.size l.roots (z3h l.ents))).1.length=16:=by
  rw[z3tc,if_pos ho]
  show(if(l.len:Int)=0 then z9ia [] else _).length=16
  split
  ·exact z0lb []
  ·exact z68a hA (by rw[hAl];exact z1ic (by omega)) _
 simp only[z8Ja,z3Ea,z5ta,pkA] at p3 p4 q1 q2⊢
 unfold z3kc
 generalize z3tc (l.len:Int) (z5r l.size l.roots (z3h l.ents))=T at*
 generalize z5r l.size l.roots (z3h l.ents)=A at*
 simp(maxSteps:=1000000) (disch:=first|omega|(simp;done)|(simp;omega)) [z6G,z6Va,h349,p3,p4,h348,q1,q2,h185,t1,t2,tl,z8za,z7za,z0qa,z8ya tl]
end Go.Abs
end

section
namespace Go.Abs
set_option maxRecDepth 100000
set_option maxHeartbeats 8000000
def z7Gc (l:z0n) (n:Int):z0n×Nat:=if n<l.size∨(l.len:Int)<n then(⟨0,[],[]⟩,11) else(⟨n.toNat,z5r l.size l.roots (z3h (l.ents.take (n.toNat-l.size))),l.ents.drop (n.toNat-l.size)⟩,0)
def z8xd:z1f:=⟨fun ds=>∃(l:z0n) (n:Int),l.ok∧z2e n∧ds=[z8Ja none none l,i64 n],fun ds=> .tup [z8Ja none none (z7Gc (z0Fb (nth ds 0)) (asI (nth ds 1))).1,i64 ((z7Gc (z0Fb (nth ds 0)) (asI (nth ds 1))).2:Int)]⟩
theorem z7td {l:z0n} {n:Int} (h:l.ok) (hn:z2e n):z8xd.pre [z8Ja none none l,i64 n]=True:=eq_true ⟨l,n,h,hn,rfl⟩
theorem z9sc {l:z0n} (n:Int) (h:l.ok):z8xd.post [z8Ja none none l,i64 n]= .tup [z8Ja none none (z7Gc l n).1,i64 ((z7Gc l n).2:Int)]:=by
 show z0a.tup [z8Ja none none (z7Gc (z0Fb (z8Ja none none l)) n).1,i64 ((z7Gc (z0Fb (z8Ja none none l)) n).2:Int)]=_
 rw[z6Qb h]
theorem z11d (E:Env) (h348:E.G 348=z7Mc) (h358:E.G 358=z8vb):∀ds,z8xd.pre ds→ds.length=z8Ma.n∧awp E z8Ma.body (z4xa z8Ma.res (z8xd.post ds)) (z4H z8Ma.wr ds):=by
 rintro _ ⟨l,n,h,hn,rfl⟩
 rw[z9sc n h]
 have hs:=h.s
 have hll:l.len=l.size+l.ents.length:=rfl
 have q1:=z23b h hn
 have q2:=z3Eb n h
 by_cases c:n<l.size∨(l.len:Int)<n
 ·rw[z0Ob,if_pos c] at q2
  rw[z7Gc,if_pos c]
  simp only[z8Ja,z3Ea,z5ta,pkA] at q1 q2⊢
  have e0:z0sa []=[]:=rfl
  simp(maxSteps:=1000000) (disch:=first|omega|(simp;done)|(simp;omega)) [z6G,z8Ma,h348,q1,q2,kT,kF,z8za,z7za,e0]
 ·rw[z0Ob,if_neg c] at q2
  rw[z7Gc,if_neg c]
  have i1:(n-(l.size:Int)).toNat=n.toNat-l.size:=by omega
  have hlen:=z3xa h.e
  have hdr:=z1Ib h.e (n.toNat-l.size)
  have hld:(l.ents.drop (n.toNat-l.size)).length=l.ents.length-(n.toNat-l.size):=List.length_drop
  have k1:z8vb.pre [.sl .plain none (l.ents.length-(n.toNat-l.size)) (z0sa (l.ents.drop (n.toNat-l.size)))]=True:=eq_true ⟨none,_,_,by rw[z3xa (fun x hx=>h.e x (List.mem_of_mem_drop hx)),hld],z2Cb _,by have:=h.n;omega,rfl⟩
  have k2:z8vb.post [.sl .plain none (l.ents.length-(n.toNat-l.size)) (z0sa (l.ents.drop (n.toNat-l.size)))]= .sl (.own 30) none (l.ents.length-(n.toNat-l.size)) (z0sa (l.ents.drop (n.toNat-l.size))):=rfl
  have hn0:((n.toNat:Nat):Int)=n:=by omega
  have htk:List.take ((l.ents.length-(n.toNat-l.size))*30) (z0sa (l.ents.drop (n.toNat-l.size)))=z0sa (l.ents.drop (n.toNat-l.size)):=List.take_of_length_le (by rw[z3xa (fun x hx=>h.e x (List.mem_of_mem_drop hx)),hld];exact Nat.le_refl _)
  simp only[z8Ja,z3Ea,z5ta,pkA,hld,hn0] at q1 q2 k1 k2⊢
  generalize z5r l.size l.roots (z3h (l.ents.take (n.toNat-l.size)))=A at*
  simp(maxSteps:=1000000) (disch:=first|omega|(simp;done)|(simp;omega)) [z6G,z8Ma,z6Bb,h348,q1,q2,kT,kF,z8za,z7za,i1,hlen,hdr,htk,h358,k1,k2]
  exact⟨by omega,by omega⟩
end Go.Abs
end

section
namespace Go.Abs
set_option maxRecDepth 100000
set_option maxHeartbeats 8000000
def gFe (d:z0a):List z2n:=match d with| .fn _ _ [.ep [.sl _ _ n cs]]=>z9xb n cs|_=>[]
def z3jc:z1f:=⟨fun ds=>∃(ne:Option Bool) (es:List z2n),z3Ab es∧es.length≤1000∧ds=[.sl .plain (some true) 0 [],.fn 372 [] [.ep [z5ta ne es]]],fun ds=>z8Ab none (z3h (gFe (nth ds 1)))⟩
def z6jd:z1f:=⟨fun ds=>∃(ne:Option Bool) (es:List z2n),z3Ab es∧es.length≤1000∧ds=[.fn 372 [] [.ep [z5ta ne es]]],fun ds=>z8Ab none (z3h (gFe (nth ds 0)))⟩
theorem z8vc {ne:Option Bool} {es:List z2n} (h:z3Ab es):gFe (.fn 372 [] [.ep [z5ta ne es]])=es:=z4kb h
theorem z3nd (E:Env) (hI:E.I 372=z2sc z3Gb):∀ds,z3jc.pre ds→ds.length=z9pa.n∧awp E z9pa.body (z4xa z9pa.res (z3jc.post ds)) (z4H z9pa.wr ds):=by
 rintro _ ⟨ne,es,he,h1,rfl⟩
 rw[show z3jc.post [.sl .plain (some true) 0 [],.fn 372 [] [.ep [z5ta ne es]]]=z8Ab none (z3h es) by show z8Ab none (z3h (gFe (.fn 372 [] [.ep [z5ta ne es]])))=_;rw[z8vc he]]
 generalize hQf:z4xa z9pa.res (z8Ab none (z3h es))=Qf
 have hel:=z6Tc he ne
 have hpre:=z0tc he h1 ne
 have hdl:(z3h es).length=es.length:=by simp[z3h]
 unfold z5ta
 simp(maxSteps:=1000000) (disch:=first|omega|(simp;done)|(simp;omega)) [z6G,z9pa,z1m]
 refine z1g fun Q1 hQ1=> ?_
 refine z7tb [] [.ep [.sl .plain ne es.length (z0sa es)]] (by simp) (by simp) (by rw[hI];rfl) (by rw[hI];exact hpre) (by simp) es.length (fun i bx=>i≤es.length∧bx=[(2,some [.sl (.own 16) none i (bys (dgs ((z3h es).take i)))])]) ⟨Nat.zero_le _,by simp[dgs]⟩ (fun i bx h=>h.1) (fun i bx h hn=> ?_) (fun i bx xs hi hx=> ?_)
 ·rw[hI,hel] at hn
  obtain⟨hi,rfl⟩:=h
  split at hn
  ·cases hn
  ·have hii:i=es.length:=by omega
   subst hii
   rw[List.take_of_length_le (by omega)]
   rw[hQ1]
   simp(maxSteps:=1000000) (disch:=first|omega|(simp;done)|(simp;omega)) [z6G,z3oa,z9t,z7Aa,←hQf,z9pa,z8Ab,hdl]
 ·rw[hI,hel] at hx
  obtain⟨hi,rfl⟩:=hi
  split at hx
  ·rename_i hlt
   have hx':=(Option.some.inj hx).symm
   subst hx'
   have dl:(z0f 8 [z5Wb es[i]]).length=16:=z0e _ _
   refine⟨rfl,by simp,fun V=> ?_⟩
   have hnx:(z3h es).take (i+1)=(z3h es).take i++[z0f 8 [z5Wb es[i]]]:=by rw[List.take_succ_eq_append_getElem (by omega)];simp[z3h]
   have hA1:=z3za (z3v (z0xc es) i)
   rw[List.length_take,hdl,Nat.min_eq_left hi] at hA1
   have hnd:dgs ((z3h es).take i++[z0f 8 [z5Wb es[i]]])=dgs ((z3h es).take i)++z0f 8 [z5Wb es[i]]:=by simp[dgs]
   rw[hnx,hnd]
   generalize dgs ((z3h es).take i)=A at*
   simp(maxSteps:=1000000) (disch:=first|omega|(simp;done)|(simp;omega)) [z6G,z8pa,z7pa,z3oa,z9t,z8Aa,z4Aa,dl,z0qa,z8ya dl,kT,kF,z5yc,z5E,hA1]
   exact⟨⟨by omega,by omega⟩,by omega⟩
  ·cases hx
theorem z8Yd (E:Env) (h371:E.G 371=z3jc):∀ds,z6jd.pre ds→ds.length=z3ra.n∧awp E z3ra.body (z4xa z3ra.res (z6jd.post ds)) (z4H z3ra.wr ds):=by
 rintro _ ⟨ne,es,he,h1,rfl⟩
 rw[show z6jd.post [.fn 372 [] [.ep [z5ta ne es]]]=z8Ab none (z3h es) by show z8Ab none (z3h (gFe (.fn 372 [] [.ep [z5ta ne es]])))=_;rw[z8vc he]]
 have p1:z3jc.pre [.sl .plain (some true) 0 [],.fn 372 [] [.ep [z5ta ne es]]]=True:=eq_true ⟨ne,es,he,h1,rfl⟩
 have p2:z3jc.post [.sl .plain (some true) 0 [],.fn 372 [] [.ep [z5ta ne es]]]=z8Ab none (z3h es):=by show z8Ab none (z3h (gFe (.fn 372 [] [.ep [z5ta ne es]])))=_;rw[z8vc he]
 have ta:∀(bx:Nat→List z0a) (cs:List z0a),z1k bx (.ep cs)= .ep cs:=fun _ _=>rfl
 have oa:z0d [] (fun _=>none) (.fn 372 [] [.ep [z5ta ne es]])=True:=eq_true ⟨by simp,by simp[z8e,z5ta]⟩
 unfold z5ta at*
 unfold z8Ab at*
 simp(maxSteps:=1000000) (disch:=first|omega|(simp;done)|(simp;omega)) [z6G,z3ra,h371,p1,p2,ta,oa]
end Go.Abs
end

section
namespace Go.Abs
set_option maxRecDepth 100000
set_option maxHeartbeats 8000000
def z87c:z1f:=⟨fun ds=>∃(nl:Option Bool) (l:List (List UInt8)),z9n l∧l.length≤1000000∧0<l.length∧ds=[z3Ea nl l],fun ds=> .agg (bys (z3Gc (gDs (nth ds 0))))⟩
theorem z2Ed {nl:Option Bool} {l:List (List UInt8)} (h:z9n l) (hl:l.length≤1000000) (h0:0<l.length):z87c.pre [z3Ea nl l]=True:=eq_true ⟨nl,l,h,hl,h0,rfl⟩
theorem z0wc {nl:Option Bool} {l:List (List UInt8)} (h:z9n l):z87c.post [z3Ea nl l]= .agg (bys (z3Gc l)):=by
 show z0a.agg (bys (z3Gc (gDs (.sl .plain nl l.length (bys (dgs l))))))=_
 rw[z1Ja h]
theorem z1Kd (E:Env) (h8:E.G 8=ofC) (hI184:E.I 184=z9ec) (h183:E.M 183=z6kc):∀ds,z87c.pre ds→ds.length=z9wa.n∧awp E z9wa.body (z4xa z9wa.res (z87c.post ds)) (z4H z9wa.wr ds):=by
 rintro _ ⟨nl,l,hl,hlen,hpos,rfl⟩
 rw[z0wc hl]
 unfold z3Ea
 generalize hQf:z4xa z9wa.res (.agg (bys (z3Gc l)))=Qf
 have hd:=z3za hl
 have hat:=z7Qb hl (show l.length-1<l.length by omega)
 have hal:=z69a hl (show l.length-1<l.length by omega)
 have e1:((l.length:Int)-1).toNat=l.length-1:=by omega
 have ht:=z9kb hl (l.length-1)
 have b1:z6kc.pre [.sl .plain nl (l.length-1) (bys (dgs (l.take (l.length-1))))]=True:=z46b (z3v hl _) (by simp;omega) (by simp) rfl
 have di:∀(ids:List Nat) (f:Nat→List z0a) (k:Int),z8F ids f (i64 k)=i64 k:=fun _ _ _=>rfl
 simp(maxSteps:=1000000) (disch:=first|omega|(simp;done)|(simp;omega)) [z6G,z8pa,z7pa,z9wa,e1,hd,hat,hal,z0qa,ht,h183,b1,di]
 refine⟨⟨by omega,by omega⟩,by omega,⟨by omega,by omega⟩,?_⟩
 refine z1g fun Q1 hQ1=> ?_
 have hm:z9n (l.take (l.length-1)):=z3v hl _
 have hml:(l.take (l.length-1)).length=l.length-1:=by simp
 have hmat:∀i,i<l.length-1→z5la (l.take (l.length-1)) (l.length-1-1-i)=z5la l (l.length-2-i):=fun i hi=>by
  simp only[z5la,List.getD,List.getElem?_take]
  rw[if_pos (by omega),show l.length-1-1-i=l.length-2-i by omega]
 have hel:=fun i=>z72b (nl:=nl) hm i
 rw[hml] at hel
 generalize hm0:l.take (l.length-1)=m at*
 refine z7tb [] [.ep [.sl .plain nl (l.length-1) (bys (dgs m))]] (by simp) (by simp) (by rw[hI184];rfl) (by rw[hI184];have:=z7vc (nl:=nl) hm (by omega);rw[hml] at this;exact this) (by simp) l.length (fun i bx=>i≤l.length-1∧bx=[(2,some (bys (z5j 16))),(3,some (bys (z0kc l i)))]) ⟨Nat.zero_le _,rfl⟩ (fun i bx h=>by omega) (fun i bx h he=> ?_) (fun i bx xs hi he=> ?_)
 ·rw[hI184,hel] at he
  obtain⟨hi,rfl⟩:=h
  split at he
  ·cases he
  ·have hii:i=l.length-1:=by omega
   subst hii
   have tl:=z68a hl hpos (l.length-1)
   have tk:=z8ya tl
   rw[hQ1]
   simp(maxSteps:=1000000) (disch:=first|omega|(simp;done)|(simp;omega)) [z6G,z8pa,z7pa,z3oa,z9t,z2Db,tl,z0qa,←hQf,z9wa,tk,z3Gc]
 ·rw[hI184,hel] at he
  obtain⟨hi,rfl⟩:=hi
  split at he
  ·rename_i hlt
   have he':=(Option.some.inj he).symm
   subst he'
   have tl:=z68a hl hpos i
   refine⟨rfl,by simp,fun V=> ?_⟩
   have al:=z69a hl (show l.length-2-i<l.length by omega)
   rw[hmat i hlt]
   have tn:z0kc l (i+1)=z0f 2 [z5la l (l.length-2-i),z0kc l i]:=rfl
   rw[tn]
   have dl:=z0e 2 [z5la l (l.length-2-i),z0kc l i]
   have o1:ofC.pre [i64 2,.sl .plain (some false) 2 [st (z5la l (l.length-2-i)),st (z0kc l i)]]=True:=eq_true ⟨2,some false,[z5la l (l.length-2-i),z0kc l i],by simp[z1qb,al,tl],rfl⟩
   have o2:ofC.post [i64 2,.sl .plain (some false) 2 [st (z5la l (l.length-2-i)),st (z0kc l i)]]= .agg (bys (z0f 2 [z5la l (l.length-2-i),z0kc l i])):=by
    show z0a.agg (bys (z0f 2 (gSs [st (z5la l (l.length-2-i)),st (z0kc l i)])))=_
    simp[gSs]
   generalize z0f 2 [z5la l (l.length-2-i),z0kc l i]=D at*
   simp(maxSteps:=1000000) (disch:=first|omega|(simp;done)|(simp;omega)) [z6G,z8pa,z7pa,z3oa,z9t,z7Bb,z9Db,al,tl,dl,z0qa,h8,o1,o2,z5yc,z5E,z8ya,z8za,z7za]
   omega
  ·cases he
end Go.Abs
end

section
namespace Go.Abs
set_option maxRecDepth 100000
set_option maxHeartbeats 8000000
def z56b (n m:Nat) (w:Bool):Option Bool:=if m=n∧w=false then some false else none
def z9wc (n m:Nat) (w:Bool) (q l:List (List UInt8)):z0a:=z8Ab (z56b n m w) (prf n m w q l)
structure z9Cc (n m:Nat) (q l:List (List UInt8)):Prop where
 m1:1≤m
 mn:m+l.length=n
 nn:n≤62000
 q16:z9n q
 l16:z9n l
 qo:q.length=oN m
def z1Hc:z1f:=⟨fun ds=>∃(n m:Nat) (w:Bool) (nq nl:Option Bool) (q l:List (List UInt8)),z9Cc n m q l∧ds=[i64 (n:Int),i64 (m:Int),bo w,z3Ea nq q,z3Ea nl l],
 fun ds=>z9wc (asI (nth ds 0)).toNat (asI (nth ds 1)).toNat (asB (nth ds 2)) (gDs (nth ds 3)) (gDs (nth ds 4))⟩
theorem z6oc {n m:Nat} {w:Bool} {nq nl:Option Bool} {q l:List (List UInt8)} (h:z9Cc n m q l):z1Hc.pre [i64 (n:Int),i64 (m:Int),bo w,z3Ea nq q,z3Ea nl l]=True:=eq_true ⟨n,m,w,nq,nl,q,l,h,rfl⟩
theorem z3Pb {n m:Nat} {w:Bool} {nq nl:Option Bool} {q l:List (List UInt8)} (h:z9Cc n m q l):z1Hc.post [i64 (n:Int),i64 (m:Int),bo w,z3Ea nq q,z3Ea nl l]=z9wc n m w q l:=by
 show z9wc ((n:Int)).toNat ((m:Int)).toNat w (gDs (.sl .plain nq q.length (bys (dgs q)))) (gDs (.sl .plain nl l.length (bys (dgs l))))=_
 rw[z1Ja h.q16,z1Ja h.l16,Int.toNat_natCast,Int.toNat_natCast]
theorem z1Kc (n m:Nat) (w:Bool) (q l:List (List UInt8)) (hq:z9n q) (ho:q.length=oN m) (h1:1≤m) (hn:m+l.length=n):z9n (prf n m w q l):=by
 have hp:0<q.length:=by rw[ho];exact z1ic h1
 by_cases he:m=n
 ·rw[z6ic he]
  cases w
  ·exact z0u.2 ⟨z68a hq hp _,z5z⟩
  ·exact z5z
 ·have h2:2≤n:=by omega
  have hs:=z0H h2
  have hps:=z4v n
  rw[z93b ⟨h2,he⟩]
  split
  ·rename_i hk
   exact z2y.2 ⟨z1Kc (spl n) m w q _ hq ho h1 (by rw[List.length_take];omega),z0u.2 ⟨z0lb _,z5z⟩⟩
  ·rename_i hk
   have hm:2^Nat.log2 (n-1)+(m-spl n)=m:=by change spl n+(m-spl n)=m;omega
   have hw:=z4Cb h2
   have ho':oN m=oN (m-spl n)+1:=by
    have:=z2gd (k:=Nat.log2 (n-1)) (m:=m-spl n) (by change m-spl n<spl n;omega)
    rwa[hm] at this
   cases q with
   |nil=>simp at hp
   |cons a q'=>
    have h16:=z0u.1 hq
    exact z2y.2 ⟨z1Kc (n-spl n) (m-spl n) false q' l h16.2 (by simp at ho;omega) (by omega) (by omega),z0u.2 ⟨h16.1,z5z⟩⟩
termination_by n
decreasing_by
 all_goals omega
end Go.Abs
end

section
namespace Go.Abs
set_option maxRecDepth 100000
set_option maxHeartbeats 8000000
def z7md (ds:List z0a):Nat:=(asI (nth ds 0)).toNat
theorem z7rd (E:Env) (N:Nat) (h370:E.G 370=z87c) (h168:E.G 168=z0ob) (h352:E.G 352=z2Yb z1Hc z7md N):∀ds,(z2Yb z1Hc z7md (N+1)).pre ds→ds.length=z9sa.n∧awp E z9sa.body (z4xa z9sa.res (z1Hc.post ds)) (z4H z9sa.wr ds):=by
 rintro _ ⟨⟨n,m,w,nq,nl,q,l,h,rfl⟩,hN⟩
 rw[z3Pb h]
 have hm1:=h.m1
 have hmn:=h.mn
 have hnn:=h.nn
 have hqp:0<q.length:=by rw[h.qo];exact z1ic hm1
 have hdq:=z3za h.q16
 have hdl:=z3za h.l16
 unfold z3Ea
 by_cases he:m=n
 ·subst he
  have d1:decide ((m:Int)=(m:Int))=true:=decide_eq_true rfl
  cases w with
  |true=>
   have hr:z9wc m m true q l= .sl (.own 16) none 0 []:=by rw[z9wc,z6ic rfl];simp[z8Ab,z56b,dgs]
   rw[hr]
   simp(maxSteps:=1000000) (disch:=first|omega|(simp;done)|(simp;omega)) [z6G,z8pa,z7pa,z9sa,kT,kF]
  |false=>
   have hr:z9wc m m false q l= .sl (.own 16) (some false) 1 (bys (z3Gc q)):=by rw[z9wc,z6ic rfl];simp[z8Ab,z56b,dgs]
   have f1:z87c.pre [.sl .plain nq q.length (bys (dgs q))]=True:=z2Ed h.q16 (by have:=h.qo;have:=z2ec m;omega) hqp
   have f2:z87c.post [.sl .plain nq q.length (bys (dgs q))]= .agg (bys (z3Gc q)):=z0wc h.q16
   have tl:(z3Gc q).length=16:=z68a h.q16 hqp _
   rw[hr]
   simp(maxSteps:=1000000) (disch:=first|omega|(simp;done)|(simp;omega)) [z6G,z8pa,z7pa,z9sa,z5db,kT,kF,h370,f1,f2,tl,z0qa]
 ·have d1:decide ((m:Int)=(n:Int))=false:=decide_eq_false (by omega)
  have d3:((m:Int)==(n:Int))=false:=beq_false_of_ne (by omega)
  have h2:2≤n:=by omega
  have hs:=z0H h2
  have hps:=z4v n
  have hw:=z4Cb h2
  generalize hQf:z4xa z9sa.res (z9wc n m w q l)=Qf
  simp(maxSteps:=1000000) (disch:=first|omega|(simp;done)|(simp;omega)) [z6G,z8pa,z7pa,z9sa,z5db,z1wb,kT,kF,d1,d3]
  refine z1g fun Q1 hQ1=> ?_
  refine z1v (fun i:Nat=>⟨[(0,i64 n),(1,i64 m),(2,bo w),(3,.sl .plain nq q.length (bys (dgs q))),(4,.sl .plain nl l.length (bys (dgs l)))],[(11,i64 ((2^i:Nat):Int))],[]⟩) (fun i=>n-2^i) (fun i=>2^i<n) 0 (by simp) (by simp;omega) fun i hi=> ?_
  refine z1g fun Q2 hQ2=> ?_
  have hp2:2^(i+1)=2*2^i:=by rw[Nat.pow_succ];omega
  have hpos2:=Nat.two_pow_pos i
  by_cases c:2*2^i<n
  ·have dc:decide (2*((2^i:Nat):Int)<(n:Int))=true:=decide_eq_true (by omega)
   generalize hK:2^i=k at*
   simp(maxSteps:=1000000) (disch:=first|omega|(simp;done)|(simp;omega)) [z6G,z1bb,z6bb,kT,kF,dc,hQ2]
   exact⟨i+1,by rw[hp2];omega,by rw[hp2];omega,by have:=congrArg (fun x:Nat=>(x:Int)) hp2;simp at this;omega⟩
  ·have hk:spl n=2^i:=z5td hi (by omega)
   have dc:decide (2*((2^i:Nat):Int)<(n:Int))=false:=decide_eq_false (by omega)
   generalize hK:2^i=k at*
   simp(maxSteps:=1000000) (disch:=first|omega|(simp;done)|(simp;omega)) [z6G,z1bb,z6bb,kT,kF,dc,hQ2,hQ1]
   have hN':n<N+1:=hN
   rw[←hQf,z9wc,z93b ⟨h2,he⟩,hk]
   by_cases hm:m≤k
   ·have dm:decide ((k:Int)<(m:Int))=false:=decide_eq_false (by omega)
    have hle:(l.take (k-m)).length=k-m:=by rw[List.length_take];omega
    have hld:(l.drop (k-m)).length=n-k:=by rw[List.length_drop];omega
    have ok1:z9Cc k m q (l.take (k-m)):=⟨hm1,by omega,by omega,h.q16,z3v h.l16 _,h.qo⟩
    have i1:((k:Int)-(m:Int)).toNat=k-m:=by omega
    have c1:((n:Int)-((n:Int)-(k:Int)))=(k:Int):=by omega
    have hp0:=z6oc (w:=w) (nq:=nq) (nl:=nl) ok1
    have hq0:=z3Pb (w:=w) (nq:=nq) (nl:=nl) ok1
    simp only[z3Ea,hle] at hp0 hq0
    have hp1:(z2Yb z1Hc z7md N).pre [i64 (k:Int),i64 (m:Int),bo w,.sl .plain nq q.length (bys (dgs q)),.sl .plain nl (k-m) (bys (dgs (l.take (k-m))))]=True:=eq_true ⟨of_eq_true hp0,by show k<N;omega⟩
    have hq1:(z2Yb z1Hc z7md N).post [i64 (k:Int),i64 (m:Int),bo w,.sl .plain nq q.length (bys (dgs q)),.sl .plain nl (k-m) (bys (dgs (l.take (k-m))))]=z9wc k m w q (l.take (k-m)):=hq0
    have hl2:l.length-(k-m)=n-k:=by omega
    have r1:z0ob.pre [.sl .plain nl (n-k) (bys (dgs (l.drop (k-m))))]=True:=z1Bb (z7Ab h.l16 _) (by omega) hld.symm rfl
    have r2:z0ob.post [.sl .plain nl (n-k) (bys (dgs (l.drop (k-m))))]= .agg (bys (z9ia (l.drop (k-m)))):=z5ib (z7Ab h.l16 _) hld.symm rfl
    have rl:=z0lb (l.drop (k-m))
    have t1:=z9kb h.l16 (k-m)
    have t2:=z7Ob h.l16 (k-m)
    have t3:List.take ((n-k)*16) (bys (dgs (l.drop (k-m))))=bys (dgs (l.drop (k-m))):=List.take_of_length_le (by simp only[bys,List.length_map];rw[z3za (z7Ab h.l16 _),hld];exact Nat.le_refl _)
    have hnl:z56b n m w=none:=by simp[z56b,he]
    rw[if_pos hm,hnl]
    have hPl:=z0Sb k m w q (l.take (k-m)) hm1 hm
    generalize hP:prf k m w q (l.take (k-m))=P at*
    generalize hR:z9ia (l.drop (k-m))=R at*
    rw[z9wc,hP] at hq1
    simp(maxSteps:=1000000) (disch:=first|omega|(simp;done)|(simp;omega)) [z6G,z2bb,z7wb,kT,kF,dm,h352,i1,hdl,hp1,hq1,hl2,h168,r1,r2,rl,t1,t2,t3,z0qa,z8Ab,←hQf,z9sa,z8pa]
    exact⟨⟨hm,by omega⟩,by omega,by omega⟩
   ·have dm:decide ((k:Int)<(m:Int))=true:=decide_eq_true (by omega)
    have ho':oN m=oN (m-k)+1:=by
     have:=z2gd (k:=Nat.log2 (n-1)) (m:=m-spl n) (by change m-spl n<spl n;omega)
     rw[show 2^Nat.log2 (n-1)+(m-spl n)=m by change spl n+(m-spl n)=m;omega,hk] at this
     exact this
    have htl:q.tail.length=q.length-1:=List.length_tail
    have ok2:z9Cc (n-k) (m-k) q.tail l:=⟨by omega,by omega,by omega,fun d hd=>h.q16 d (List.mem_of_mem_tail hd),h.l16,by rw[htl,h.qo];omega⟩
    have c1:((n-k:Nat):Int)=(n:Int)-(k:Int):=by omega
    have c2:((m-k:Nat):Int)=(m:Int)-(k:Int):=by omega
    have hp0:=z6oc (w:=false) (nq:=nq) (nl:=nl) ok2
    have hq0:=z3Pb (w:=false) (nq:=nq) (nl:=nl) ok2
    simp only[z3Ea,htl,c1,c2] at hp0 hq0
    have hp1:(z2Yb z1Hc z7md N).pre [i64 ((n:Int)-(k:Int)),i64 ((m:Int)-(k:Int)),bo false,.sl .plain nq (q.length-1) (bys (dgs q.tail)),.sl .plain nl l.length (bys (dgs l))]=True:=eq_true ⟨of_eq_true hp0,by show((n:Int)-(k:Int)).toNat<N;omega⟩
    have hq1:(z2Yb z1Hc z7md N).post [i64 ((n:Int)-(k:Int)),i64 ((m:Int)-(k:Int)),bo false,.sl .plain nq (q.length-1) (bys (dgs q.tail)),.sl .plain nl l.length (bys (dgs l))]=z9wc (n-k) (m-k) false q.tail l:=hq0
    have hnl:z56b n m w=none:=by simp[z56b,he]
    obtain⟨a,q',rfl⟩:∃a q',q=a::q':=by
     cases q with
     |nil=>simp at hqp
     |cons a q'=>exact⟨a,q',rfl⟩
    simp only[List.length_cons,Nat.add_sub_cancel,List.tail_cons] at hp1 hq1
    have hal:=(z0u.1 h.q16).1
    have t1:List.take (q'.length*16) (dgs q')=dgs q':=List.take_of_length_le (by rw[z3za (z0u.1 h.q16).2];exact Nat.le_refl _)
    have t2:List.take 16 (dgs (a::q'))=a:=by rw[show dgs (a::q')=a++dgs q' by simp[dgs],List.take_left' hal]
    rw[if_neg hm,hnl,List.headD_cons,List.tail_cons]
    have hPl:=z0Sb (n-k) (m-k) false q' l (by omega) (by omega)
    generalize hP:prf (n-k) (m-k) false q' l=P at*
    rw[z9wc,hP] at hq1
    simp(maxSteps:=1000000) (disch:=first|omega|(simp;done)|(simp;omega)) [z6G,z2bb,kT,kF,dm,h352,hdq,hp1,hq1,t1,t2,hal,z0qa,z8Ab,←hQf,z9sa,z8pa]
    exact⟨by omega,by omega,by omega⟩
end Go.Abs
end

section
namespace Go.Abs
set_option maxRecDepth 100000
set_option maxHeartbeats 8000000
def z2S (l:z0n) (m:Int):List (List UInt8)×Nat:=if m<1∨m<l.size∨(l.len:Int)<m then([],11) else(prf l.len m.toNat true (z5r l.size l.roots (z3h (l.ents.take (m.toNat-l.size)))) (z3h (l.ents.drop (m.toNat-l.size))),0)
def z0cd:z1f:=⟨fun ds=>∃(l:z0n) (m:Int),l.ok∧z2e m∧ds=[z8Ja none none l,i64 m],fun ds=> .tup [z3Ea none (z2S (z0Fb (nth ds 0)) (asI (nth ds 1))).1,i64 ((z2S (z0Fb (nth ds 0)) (asI (nth ds 1))).2:Int)]⟩
theorem z5qc {l:z0n} {m:Int} (h:l.ok) (hm:z2e m):z0cd.pre [z8Ja none none l,i64 m]=True:=eq_true ⟨l,m,h,hm,rfl⟩
theorem z6Nb {l:z0n} (m:Int) (h:l.ok):z0cd.post [z8Ja none none l,i64 m]= .tup [z3Ea none (z2S l m).1,i64 ((z2S l m).2:Int)]:=by
 show z0a.tup [z3Ea none (z2S (z0Fb (z8Ja none none l)) m).1,i64 ((z2S (z0Fb (z8Ja none none l)) m).2:Int)]=_
 rw[z6Qb h]
theorem z9m (l:List z2n):(z3h l).length=l.length:=List.length_map _
theorem z7Kd (E:Env) (h349:E.G 349=z1Fb) (h348:E.G 348=z7Mc) (h350:E.G 350=z2Sc) (h351:E.G 351=z6jd) (h352:E.G 352=z1Hc):∀ds,z0cd.pre ds→ds.length=z4za.n∧awp E z4za.body (z4xa z4za.res (z0cd.post ds)) (z4H z4za.wr ds):=by
 rintro _ ⟨l,m,h,hm,rfl⟩
 rw[z6Nb m h]
 have hs:=h.s
 have hn:=h.n
 have hll:l.len=l.size+l.ents.length:=rfl
 have p3:z1Fb.pre [z8Ja none none l]=True:=z6kb h
 have p4:z1Fb.post [z8Ja none none l]=i64 (l.len:Int):=z5Pa h
 have q1:=z23b h hm
 have q2:=z3Eb m h
 by_cases c0:m<1
 ·rw[z2S,if_pos (.inl c0)]
  simp only[z8Ja,z3Ea,z5ta] at p3 p4⊢
  have d1:decide (m<1)=true:=decide_eq_true c0
  simp(maxSteps:=1000000) (disch:=first|omega|(simp;done)|(simp;omega)) [z6G,z8pa,z7pa,z4za,kT,kF,d1]
  skip
 ·have d1:decide (m<1)=false:=decide_eq_false c0
  by_cases c:m<l.size∨(l.len:Int)<m
  ·rw[z0Ob,if_pos c] at q2
   rw[z2S,if_pos (by omega)]
   simp only[z8Ja,z3Ea,z5ta,pkA] at p3 p4 q1 q2⊢
   simp(maxSteps:=1000000) (disch:=first|omega|(simp;done)|(simp;omega)) [z6G,z8pa,z7pa,z4za,z30a,kT,kF,d1,h348,q1,q2,z8za,z7za]
   skip
  ·rw[z0Ob,if_neg c] at q2
   rw[z2S,if_neg (by omega)]
   have i1:(m-(l.size:Int)).toNat=m.toNat-l.size:=by omega
   have hlen:=z3xa h.e
   have hdr:=z1Ib h.e (m.toNat-l.size)
   have hld:(l.ents.drop (m.toNat-l.size)).length=l.ents.length-(m.toNat-l.size):=List.length_drop
   have hsd:z3Ab (l.ents.drop (m.toNat-l.size)):=fun x hx=>h.e x (List.mem_of_mem_drop hx)
   have hle:(l.ents.take (m.toNat-l.size)).length=m.toNat-l.size:=by rw[List.length_take];omega
   have k1:z2Sc.pre [.sl .plain none (l.ents.length-(m.toNat-l.size)) (z0sa (l.ents.drop (m.toNat-l.size)))]=True:=eq_true ⟨none,_,_,by rw[z3xa hsd,hld],by simp,rfl⟩
   have k2:z2Sc.post [.sl .plain none (l.ents.length-(m.toNat-l.size)) (z0sa (l.ents.drop (m.toNat-l.size)))]= .fn 372 [] [.ep [.sl .plain none (l.ents.length-(m.toNat-l.size)) (z0sa (l.ents.drop (m.toNat-l.size)))]]:=rfl
   have k3:z6jd.pre [.fn 372 [] [.ep [.sl .plain none (l.ents.length-(m.toNat-l.size)) (z0sa (l.ents.drop (m.toNat-l.size)))]]]=True:=eq_true ⟨none,_,hsd,by omega,by rw[z5ta,hld]⟩
   have k4:z6jd.post [.fn 372 [] [.ep [.sl .plain none (l.ents.length-(m.toNat-l.size)) (z0sa (l.ents.drop (m.toNat-l.size)))]]]= .sl (.own 16) none (l.ents.length-(m.toNat-l.size)) (bys (dgs (z3h (l.ents.drop (m.toNat-l.size))))):=by
    have e:z0a.fn 372 [] [.ep [.sl .plain none (l.ents.length-(m.toNat-l.size)) (z0sa (l.ents.drop (m.toNat-l.size)))]]= .fn 372 [] [.ep [z5ta none (l.ents.drop (m.toNat-l.size))]]:=by rw[z5ta,hld]
    show z8Ab none (z3h (gFe (.fn 372 [] [.ep [.sl .plain none (l.ents.length-(m.toNat-l.size)) (z0sa (l.ents.drop (m.toNat-l.size)))]])))=_
    rw[e,z8vc hsd,z8Ab,z9m,hld]
   have htk:List.take ((l.ents.length-(m.toNat-l.size))*30) (z0sa (l.ents.drop (m.toNat-l.size)))=z0sa (l.ents.drop (m.toNat-l.size)):=List.take_of_length_le (by rw[z3xa hsd,hld];exact Nat.le_refl _)
   have hA:z9n (z5r l.size l.roots (z3h (l.ents.take (m.toNat-l.size)))):=z5v h.r
   have hAl:(z5r l.size l.roots (z3h (l.ents.take (m.toNat-l.size)))).length=oN m.toNat:=by
    rw[z7o _ h.o,z9m,hle];congr 1;omega
   have ok:z9Cc l.len m.toNat (z5r l.size l.roots (z3h (l.ents.take (m.toNat-l.size)))) (z3h (l.ents.drop (m.toNat-l.size))):=⟨by omega,by rw[z9m,hld];omega,by omega,hA,z0xc _,hAl⟩
   have em:((m.toNat:Nat):Int)=m:=by omega
   have f1:=z6oc (w:=true) (nq:=none) (nl:=none) ok
   have f2:=z3Pb (w:=true) (nq:=none) (nl:=none) ok
   have ta:∀(bx:Nat→List z0a) (cs:List z0a),z1k bx (.ep cs)= .ep cs:=fun _ _=>rfl
   have oa:z0d [] (fun _=>none) (.fn 372 [] [.ep [.sl .plain none (l.ents.length-(m.toNat-l.size)) (z0sa (l.ents.drop (m.toNat-l.size)))]])=True:=eq_true ⟨by simp,by simp[z8e]⟩
   have hnl:z56b l.len m.toNat true=none:=by simp[z56b]
   rw[z9wc,hnl] at f2
   simp only[z8Ja,z3Ea,z5ta,pkA,z9m,hld,em] at p3 p4 q1 q2 f1 f2⊢
   generalize z5r l.size l.roots (z3h (l.ents.take (m.toNat-l.size)))=A at*
   generalize z3h (l.ents.drop (m.toNat-l.size))=B at*
   have hPl:=z0Sb l.len m.toNat true A B (by omega) (by omega)
   generalize prf l.len m.toNat true A B=P at*
   simp(maxSteps:=1000000) (disch:=first|omega|(simp;done)|(simp;omega)) [z6G,z8pa,z7pa,z4za,z30a,z1mb,kT,kF,d1,h348,h349,h350,h351,h352,p3,p4,q1,q2,k1,k2,k3,k4,f1,f2,i1,hlen,hdr,htk,z8za,z7za,z8Ab,ta,oa]
   exact⟨by omega,by omega⟩
end Go.Abs
end

section
namespace Go.Abs
theorem z74b:∀(k n m:Nat) (w:Bool) (q l:List (List UInt8)),1≤m→m≤n→n≤2^k→(prf n m w q l).length≤k+1
 |k,n,m,w,q,l,h1,h2,h3=>by
  by_cases he:m=n
  ·rw[z6ic he];cases w<;>simp
  ·have h2':2≤n:=by omega
   have hs:=z0H h2'
   have hw:=z4Cb h2'
   cases k with
   |zero=>simp at h3;omega
   |succ k=>
    have hk:spl n≤2^k:=by
     by_cases hc:spl n≤2^k
     ·exact hc
     ·exfalso
      have e:spl n=2^Nat.log2 (n-1):=rfl
      rw[e] at hc hs
      have:=(Nat.pow_lt_pow_iff_right (a:=2) (by decide)).1 (Nat.lt_of_not_le hc)
      have h4:2^(k+1)≤2^Nat.log2 (n-1):=Nat.pow_le_pow_right (by decide) this
      omega
    rw[z93b ⟨h2',he⟩]
    split
    ·have:=z74b k (spl n) m w q (l.take (spl n-m)) h1 (by omega) hk
     rw[List.length_append,List.length_singleton];omega
    ·have:=z74b k (n-spl n) (m-spl n) false q.tail l (by omega) (by omega) (by rw[Nat.pow_succ] at h3;omega)
     rw[List.length_append,List.length_singleton];omega
theorem z42c {n:Int} {q:List (List UInt8)} (h0:1≤n) (h1:n≤4294967296) (hq:q.length=oN n.toNat):z3tc n q=(z3Gc q,0):=by
 have ho:okP n q.length=true:=by simp[okP,hq];omega
 rw[z3tc,if_pos ho,if_neg (by omega)];rfl
def z3w (l:z0n) (m:Int):List (List UInt8):=z5r l.size l.roots (z3h (l.ents.take (m.toNat-l.size)))
def z32 (l:z0n) (m:Int):List (List UInt8):=z3h (l.ents.drop (m.toNat-l.size))
theorem z1Z {l:z0n} (h:l.ok) (m:Int):z9n (z3w l m):=z5v h.r
theorem z4M {l:z0n} (h:l.ok) {m:Int} (h2:(l.size:Int)≤m) (h3:m≤(l.len:Int)):(z3w l m).length=oN m.toNat:=by
 have hll:l.len=l.size+l.ents.length:=rfl
 have hle:(l.ents.take (m.toNat-l.size)).length=m.toNat-l.size:=by rw[List.length_take];omega
 rw[z3w,z7o _ h.o,z9m,hle];congr 1;omega
theorem z9xc {l:z0n} {m:Int} (h2:(l.size:Int)≤m) (h3:m≤(l.len:Int)):z5r m.toNat (z3w l m) (z32 l m)=z5r l.size l.roots (z3h l.ents):=by
 have hll:l.len=l.size+l.ents.length:=rfl
 have hle:(z3h (l.ents.take (m.toNat-l.size))).length=m.toNat-l.size:=by rw[z9m,List.length_take];omega
 have e:=z0q (z3h (l.ents.take (m.toNat-l.size))) (z3h (l.ents.drop (m.toNat-l.size))) l.size l.roots
 rw[hle,show l.size+(m.toNat-l.size)=m.toNat by omega] at e
 rw[z3w,z32,←e,z3h,z3h,z3h,←List.map_append,List.take_append_drop]
theorem z2Kc {l:z0n} (h:l.ok):(z5r l.size l.roots (z3h l.ents)).length=oN l.len:=by rw[z7o _ h.o,z9m];rfl
theorem z8wd {l:z0n} (h:l.ok) (h1:1≤l.len):z3kc l=z3Gc (z5r l.size l.roots (z3h l.ents)):=by
 have hs:=h.s
 have hll:l.len=l.size+l.ents.length:=rfl
 rw[z3kc,z42c (by omega) (by omega) (by rw[z2Kc h,Int.toNat_natCast])]
theorem z8Jd {l:z0n} (h:l.ok):(z3kc l).length=16:=by
 have hs:=h.s
 have hll:l.len=l.size+l.ents.length:=rfl
 have hl:=z2Kc h
 by_cases h1:1≤l.len
 ·rw[z8wd h h1];exact z68a (z5v h.r) (by rw[hl];exact z1ic h1) _
 ·have h0:l.len=0:=by omega
  rw[z3kc,z3tc,if_pos (by simp[okP,hl];omega),if_pos (by rw[h0];rfl)]
  exact z0lb []
theorem z2s {l:z0n} {m:Int} (h1:1≤m) (h2:(l.size:Int)≤m) (h3:m≤(l.len:Int)):z2S l m=(prf l.len m.toNat true (z3w l m) (z32 l m),0):=by
 rw[z2S,if_neg (by omega)];rfl
theorem z4Ed {l:z0n} {m:Int} (h2:(l.size:Int)≤m) (h3:m≤(l.len:Int)):z0Ob l m=((m,z3w l m),0):=by
 rw[z0Ob,if_neg (by omega)];rfl
theorem z8vd {l:z0n} (m:Int) (h2:(l.size:Int)≤m) (h3:m≤(l.len:Int)):m.toNat+(z32 l m).length=l.len:=by
 have hll:l.len=l.size+l.ents.length:=rfl
 rw[z32,z9m,List.length_drop];omega
theorem z3ed {l:z0n} (h:l.ok) (m:Int):z9n (z2S l m).1:=by
 unfold z2S
 split
 ·exact z5z
 ·rename_i hc
  exact z1Kc _ _ _ _ _ (z1Z h m) (z4M h (by omega) (by omega)) (by omega) (z8vd m (by omega) (by omega))
theorem z4Yc {l:z0n} (h:l.ok) (m:Int):(z2S l m).1.length≤17:=by
 have hs:=h.s
 have hll:l.len=l.size+l.ents.length:=rfl
 unfold z2S
 split
 ·exact Nat.zero_le _
 ·rename_i hc
  exact z74b 16 _ _ _ _ _ (by omega) (by omega) (by omega)
def z9cd (l:z0n) (x:z2n):z0n:=⟨l.size,l.roots,l.ents++[x]⟩
theorem z5rd (l:z0n) (x:z2n):(z9cd l x).len=l.len+1:=by simp[z0n.len,z9cd];omega
theorem z2Rd {l:z0n} {x:z2n} (h:l.ok) (hx:x.small) (h1:l.ents.length<1000) (h2:l.len<62000):(z9cd l x).ok:=by
 have hll:l.len=l.size+l.ents.length:=rfl
 refine⟨h.r,h.o,fun y hy=> ?_,by simp[z9cd];omega,by simp[z9cd];omega⟩
 rcases List.mem_append.1 hy with hy|hy
 ·exact h.e y hy
 ·rw[List.mem_singleton.1 hy];exact hx
theorem z9Tb (l:z0n) (x:z2n):(∃e:Nat,1≤e∧e≤20∧z7dc l x=(⟨0,[],[]⟩,e))∨z7dc l x=(z9cd l x,0):=by
 unfold z7dc
 split
 ·exact .inl ⟨1,by omega,by omega,rfl⟩
 ·split
  ·exact .inl ⟨20,by omega,by omega,rfl⟩
  ·exact .inr rfl
end Go.Abs
end

section
namespace Go.Abs
set_option maxRecDepth 100000
set_option maxHeartbeats 8000000
structure z0Qc where
 from':Int
 ents:List z2n
 prs:List (List (List UInt8))
def z1kc (l:List (List (List UInt8))):List z0a:=l.map (z3Ea none)
def z98b (np:Option Bool) (p:z0Qc):z0a:= .agg [i64 p.from',z5ta none p.ents,.sl .plain np p.prs.length (z1kc p.prs)]
def z0Hc (l:z0n) (a b:Int):List z2n:=(l.ents.drop (a.toNat-l.size)).take (b.toNat-a.toNat)
def z3qb (l:z0n) (a b:Int):z0Qc×Nat:=if a<l.size∨(l.len:Int)<a∨b≤a∨(l.len:Int)<b then(⟨0,[],[]⟩,11) else(⟨a,z0Hc l a b,[z3w l a,(z2S l b).1]⟩,0)
def z1Rb (e:Nat):Option Bool:=if e=0 then some false else none
def z0id:z1f:=⟨fun ds=>∃(l:z0n) (a b:Int),l.ok∧z2e a∧z2e b∧ds=[z8Ja none none l,i64 a,i64 b],
 fun ds=>let r:=z3qb (z0Fb (nth ds 0)) (asI (nth ds 1)) (asI (nth ds 2));.tup [z98b (z1Rb r.2) r.1,i64 (r.2:Int)]⟩
theorem z4Wc {l:z0n} {a b:Int} (h:l.ok) (ha:z2e a) (hb:z2e b):z0id.pre [z8Ja none none l,i64 a,i64 b]=True:=eq_true ⟨l,a,b,h,ha,hb,rfl⟩
theorem z05b {l:z0n} (a b:Int) (h:l.ok):z0id.post [z8Ja none none l,i64 a,i64 b]= .tup [z98b (z1Rb (z3qb l a b).2) (z3qb l a b).1,i64 ((z3qb l a b).2:Int)]:=by
 show(let r:=z3qb (z0Fb (z8Ja none none l)) a b;z0a.tup [z98b (z1Rb r.2) r.1,i64 (r.2:Int)])=_
 rw[z6Qb h]
theorem z2Zd (E:Env) (h349:E.G 349=z1Fb) (h348:E.G 348=z7Mc) (h353:E.G 353=z0cd) (h358:E.G 358=z8vb):∀ds,z0id.pre ds→ds.length=z7Ca.n∧awp E z7Ca.body (z4xa z7Ca.res (z0id.post ds)) (z4H z7Ca.wr ds):=by
 rintro _ ⟨l,a,b,h,ha,hb,rfl⟩
 rw[z05b a b h]
 have hs:=h.s
 have hn:=h.n
 have hll:l.len=l.size+l.ents.length:=rfl
 have p3:z1Fb.pre [z8Ja none none l]=True:=z6kb h
 have p4:z1Fb.post [z8Ja none none l]=i64 (l.len:Int):=z5Pa h
 have q1:=z23b h ha
 have q2:=z3Eb a h
 have e1:=z5qc h hb
 have e2:=z6Nb b h
 have e0:z0sa []=[]:=rfl
 by_cases c0:a<l.size∨(l.len:Int)<a
 ·rw[z0Ob,if_pos c0] at q2
  have hr:z3qb l a b=(⟨0,[],[]⟩,11):=by rw[z3qb,if_pos (by omega)]
  rw[hr]
  simp only[z8Ja,z3Ea,z5ta,pkA] at p3 p4 q1 q2⊢
  simp(maxSteps:=1000000) (disch:=first|omega|(simp;done)|(simp;omega)) [z6G,z8pa,z7pa,z7Ca,kT,kF,h348,q1,q2,z8za,z7za,z98b,z5ta,e0,z1kc,z1Rb]
  skip
 ·have c1:(l.size:Int)≤a:=by omega
  have c2:a≤(l.len:Int):=by omega
  rw[z4Ed c1 c2] at q2
  by_cases c3:b≤a
  ·have hr:z3qb l a b=(⟨0,[],[]⟩,11):=by rw[z3qb,if_pos (by omega)]
   rw[hr]
   simp only[z8Ja,z3Ea,z5ta,pkA] at p3 p4 q1 q2⊢
   simp(maxSteps:=1000000) (disch:=first|omega|(simp;done)|(simp;omega)) [z6G,z8pa,z7pa,z7Ca,kT,kF,dT,dF,c3,h348,q1,q2,z8za,z7za,z98b,z5ta,e0,z1kc,z1Rb]
   skip
  ·by_cases c4:(l.len:Int)<b
   ·have hr:z3qb l a b=(⟨0,[],[]⟩,11):=by rw[z3qb,if_pos (by omega)]
    rw[hr]
    simp only[z8Ja,z3Ea,z5ta,pkA] at p3 p4 q1 q2⊢
    simp(maxSteps:=1000000) (disch:=first|omega|(simp;done)|(simp;omega)) [z6G,z8pa,z7pa,z7Ca,kT,kF,dT,dF,c3,c4,h348,h349,p3,p4,q1,q2,z8za,z7za,z98b,z5ta,e0,z1kc,z1Rb]
    skip
   ·have hr:z3qb l a b=(⟨a,z0Hc l a b,[z3w l a,(z2S l b).1]⟩,0):=by rw[z3qb,if_neg (by omega)]
    have hE2:(z2S l b).2=0:=by rw[z2s (by omega) (by omega) (by omega)]
    have i1:(a-(l.size:Int)).toNat=a.toNat-l.size:=by omega
    have i2:(b-(l.size:Int)).toNat=b.toNat-l.size:=by omega
    have hlen:=z3xa h.e
    have hsc:z3Ab (z0Hc l a b):=fun x hx=>h.e x (List.mem_of_mem_drop (List.mem_of_mem_take hx))
    have hlc:(z0Hc l a b).length=b.toNat-a.toNat:=by rw[z0Hc,List.length_take,List.length_drop];omega
    have k1:z8vb.pre [.sl .plain none (b.toNat-a.toNat) (z0sa (z0Hc l a b))]=True:=eq_true ⟨none,_,_,by rw[z3xa hsc,hlc],z2Cb _,by omega,rfl⟩
    have k2:z8vb.post [.sl .plain none (b.toNat-a.toNat) (z0sa (z0Hc l a b))]= .sl (.own 30) none (b.toNat-a.toNat) (z0sa (z0Hc l a b)):=rfl
    have h2:=z1Ib h.e (a.toNat-l.size)
    have h3:=z5Zb (l:=l.ents.drop (a.toNat-l.size)) (fun x hx=>h.e x (List.mem_of_mem_drop hx)) (b.toNat-a.toNat)
    rw[show(l.ents.drop (a.toNat-l.size)).take (b.toNat-a.toNat)=z0Hc l a b from rfl] at h3
    have i3:b.toNat-l.size-(a.toNat-l.size)=b.toNat-a.toNat:=by omega
    rw[hr]
    simp only[z8Ja,z3Ea,z5ta,pkA,hE2] at p3 p4 q1 q2 e1 e2⊢
    generalize z3w l a=A at*
    generalize(z2S l b).1=P at*
    simp(maxSteps:=1000000) (disch:=first|omega|(simp;done)|(simp;omega)) [z6G,z8pa,z7pa,z7Ca,z6wb,kT,kF,dT,dF,c3,c4,h348,h349,p3,p4,q1,q2,h353,e1,e2,h358,k1,k2,i1,i2,i3,hlen,h2,h3,z8za,z7za,z98b,z5ta,z3Ea,z1kc,z1Rb,hlc]
    exact⟨⟨by omega,by omega⟩,by omega,by omega⟩
end Go.Abs
end

section
namespace Go.Abs
structure z2w (l s:z0n) (n:Int):Prop where
 n1:(l.size:Int)≤n
 n2:n≤(l.len:Int)
 hs:(s.size:Int)=n
 hr:s.roots=z3w l n
 he:s.ents=l.ents.drop (n.toNat-l.size)
def z14d (l:z0n) (n:Int):z0n:=⟨n.toNat,z3w l n,l.ents.drop (n.toNat-l.size)⟩
theorem z7yd {l:z0n} {n:Int} (h1:(l.size:Int)≤n) (h2:n≤(l.len:Int)):z2w l (z14d l n) n:=⟨h1,h2,by simp only[z14d];omega,rfl,rfl⟩
theorem z0nd {l:z0n} {n:Int} (h1:(l.size:Int)≤n) (h2:n≤(l.len:Int)):z7Gc l n=(z14d l n,0):=by
 rw[z7Gc,if_neg (by omega)];rfl
theorem z2w.len {l s:z0n} {n:Int} (h:z2w l s n):s.len=l.len:=by
 have h1:=h.n1
 have h2:=h.n2
 have h3:=h.hs
 have hll:l.len=l.size+l.ents.length:=rfl
 show s.size+s.ents.length=l.len
 rw[h.he,List.length_drop];omega
theorem z2w.ok {l s:z0n} {n:Int} (h:z2w l s n) (hl:l.ok):s.ok:=by
 have h1:=h.n1
 have h2:=h.n2
 have h3:=h.hs
 have hle:=h.len
 have hn:=hl.n
 have hs:=hl.s
 have hll:l.len=l.size+l.ents.length:=rfl
 have hls:s.len=s.size+s.ents.length:=rfl
 refine⟨by rw[h.hr];exact z1Z hl n,by rw[h.hr,z4M hl h1 h2];congr 1;omega,fun x hx=>hl.e x (by rw[h.he] at hx;exact List.mem_of_mem_drop hx),?_,by omega⟩
 rw[h.he,List.length_drop];omega
theorem z2w.frt {l s:z0n} {n:Int} (h:z2w l s n) {m:Int} (h3:n≤m) (h4:m≤(l.len:Int)):z3w s m=z3w l m:=by
 have h1:=h.n1
 have h2:=h.n2
 have hs:=h.hs
 have hll:l.len=l.size+l.ents.length:=rfl
 rw[z3w,h.hr,h.he]
 have e1:s.size=l.size+(z3h (l.ents.take (n.toNat-l.size))).length:=by rw[z9m,List.length_take];omega
 rw[e1]
 have e2:=z0q (z3h (l.ents.take (n.toNat-l.size))) (z3h ((l.ents.drop (n.toNat-l.size)).take (m.toNat-n.toNat))) l.size l.roots
 rw[←e1,show m.toNat-s.size=m.toNat-n.toNat by omega]
 rw[←e1] at e2
 rw[show z3w l n=z5r l.size l.roots (z3h (l.ents.take (n.toNat-l.size))) from rfl,←e2,z3w,z3h,z3h,z3h,←List.map_append,←List.take_add,show n.toNat-l.size+(m.toNat-n.toNat)=m.toNat-l.size by omega]
theorem z2w.bck {l s:z0n} {n:Int} (h:z2w l s n) {m:Int} (h3:n≤m):z32 s m=z32 l m:=by
 have h1:=h.n1
 have hs:=h.hs
 rw[z32,z32,h.he,List.drop_drop]
 congr 2;omega
theorem z2w.ext {l s:z0n} {n:Int} (h:z2w l s n) {m:Int} (h3:n≤m):z2S s m=z2S l m:=by
 have h1:=h.n1
 have hs:=h.hs
 have hl:=h.len
 by_cases c:m<1∨(l.len:Int)<m
 ·rw[z2S,z2S,if_pos (by omega),if_pos (by omega)]
 ·rw[z2s (by omega) (by omega) (by omega),z2s (by omega) (by omega) (by omega),hl,h.frt h3 (by omega),h.bck h3]
theorem z2w.rot {l s:z0n} {n:Int} (h:z2w l s n):z3kc s=z3kc l:=by
 have h1:=h.n1
 have h2:=h.n2
 have hs:=h.hs
 have e:=z9xc (l:=s) (m:=n) (by omega) (by rw[h.len];exact h2)
 have e2:=z9xc (l:=l) (m:=n) h1 h2
 rw[h.frt (Int.le_refl n) h2,h.bck (Int.le_refl n)] at e
 rw[z3kc,z3kc,h.len,←e,e2]
theorem z2w.pie {l s:z0n} {n:Int} (h:z2w l s n) {a:Int} (b:Int) (h3:n≤a):z3qb s a b=z3qb l a b:=by
 have h1:=h.n1
 have hs:=h.hs
 have hl:=h.len
 by_cases c:(l.len:Int)<a∨b≤a∨(l.len:Int)<b
 ·rw[z3qb,z3qb,if_pos (by omega),if_pos (by omega)]
 ·rw[z3qb,z3qb,if_neg (by omega),if_neg (by omega),h.frt h3 (by omega),h.ext (by omega),z0Hc,z0Hc,h.he,List.drop_drop,show n.toNat-l.size+(a.toNat-s.size)=a.toNat-l.size by omega]
theorem z2w.pie_no {l s:z0n} {n:Int} (h:z2w l s n) {a:Int} (b:Int) (h3:a<n):z3qb s a b=(⟨0,[],[]⟩,11):=by
 have hs:=h.hs
 rw[z3qb,if_pos (by omega)]
theorem z2w.ext_no {l s:z0n} {n:Int} (h:z2w l s n) {m:Int} (h3:m<n):z2S s m=([],11):=by
 have hs:=h.hs
 rw[z2S,if_pos (by omega)]
theorem z2w.con {l s:z0n} {n:Int} (h:z2w l s n) (x:z2n):z2w (z9cd l x) (z9cd s x) n:=by
 have h1:=h.n1
 have h2:=h.n2
 have hll:l.len=l.size+l.ents.length:=rfl
 have hk:n.toNat-l.size≤l.ents.length:=by omega
 refine⟨h1,by rw[z5rd];omega,h.hs,?_,?_⟩
 ·show s.roots=z5r l.size l.roots (z3h ((l.ents++[x]).take (n.toNat-l.size)))
  rw[List.take_append_of_le_length hk,h.hr];rfl
 ·show s.ents++[x]=(l.ents++[x]).drop (n.toNat-l.size)
  rw[List.drop_append_of_le_length hk,h.he]
end Go.Abs
end
