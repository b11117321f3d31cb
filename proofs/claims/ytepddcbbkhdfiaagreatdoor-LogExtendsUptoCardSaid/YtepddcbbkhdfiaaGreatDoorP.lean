/- Lemmas: an abstract interpreter, and what the functions compute. -/
import Derived.Test.YtepddcbbkhdfiaaGreatDoorO
import Derived.Test.YtepddcbbkhdfiaaGreatDoorN
import Derived.Test.YtepddcbbkhdfiaaGreatDoorC
set_option linter.unusedSimpArgs false
set_option linter.unusedVariables false
set_option linter.unusedSectionVars false
section
namespace Go.Abs
end Go.Abs
end

section
namespace Go.Abs
attribute [local simp] z45a fnd wIn z2Na z8qc
end Go.Abs
end

section
namespace Go.Abs
def nd (a b:List UInt8):List UInt8:=z0oa (z7l 2 [a,b])
@[simp] theorem nd_len (a b:List UInt8):(nd a b).length=16:=z5X _
def dpd (m n:Nat):List Bool:=
 if h:1≤m∧m<n then(if m≤spl n then false::dpd m (spl n) else true::dpd (m-spl n) (n-spl n)) else []
termination_by n
decreasing_by
 ·exact z10 (by omega)
 ·have:=z6Y n;omega
theorem z8zb {m n:Nat} (h:1≤m∧m<n):dpd m n=if m≤spl n then false::dpd m (spl n) else true::dpd (m-spl n) (n-spl n):=by rw[dpd,dif_pos h]
theorem z1bb {m n:Nat} (h:¬(1≤m∧m<n)):dpd m n=[]:=by rw[dpd,dif_neg h]
def z2ma:List (Bool×List UInt8)→List UInt8→List UInt8→List UInt8×List UInt8
 |[],x,y=>(x,y)
 |(b,p)::r,x,y=>if b then z2ma r (nd p x) (nd p y) else z2ma r x (nd y p)
theorem z8ea:∀(P:List (Bool×List UInt8)) (b:Bool) (p x y:List UInt8),z2ma (P++[(b,p)]) x y=if b then(nd p (z2ma P x y).1,nd p (z2ma P x y).2) else((z2ma P x y).1,nd (z2ma P x y).2 p)
 |[],b,p,x,y=>by cases b<;>rfl
 |(c,q)::P,b,p,x,y=>by
  rw[List.cons_append,z2ma,z8ea P,z8ea P,z2ma]
  cases c<;>simp
def vpS (D:List Bool) (old:List UInt8) (pr:List (List UInt8)):Option (List UInt8×List (List UInt8)):=
 if D.all (! ·) then some (old,pr) else match pr with|[]=>none|x::p=>some (x,p)
def vpE (old root:List UInt8) (D:List Bool) (x:List UInt8) (pr:List (List UInt8)):Bool:=
 if pr.length=D.length then decide ((z2ma (D.reverse.zip pr) x x).1=old)&&decide ((z2ma (D.reverse.zip pr) x x).2=root) else false
def vpN (old root:List UInt8) (m n:Int) (pr:List (List UInt8)):Bool:=
 if 1≤m∧m≤n then(match vpS (dpd m.toNat n.toNat) old pr with|none=>false|some (x,p)=>vpE old root (dpd m.toNat n.toNat) x p) else false
def z6ad:z5a:=⟨fun ds=>∃(old root:List UInt8) (m n:Int) (nl:Option Bool) (p:List (List UInt8)),old.length=16∧root.length=16∧n≤9223372036854775807∧z2p p∧p.length≤1000∧ds=[.agg (bys old),.agg (bys root),i64 m,i64 n,z5w nl p],
 fun ds=>bo (vpN (gBs (gCs (nth ds 0))) (gBs (gCs (nth ds 1))) (asI (nth ds 2)) (asI (nth ds 3)) (gDs (nth ds 4)))⟩
theorem z3Hb {old root:List UInt8} {m n:Int} {nl:Option Bool} {p:List (List UInt8)} (ho:old.length=16) (hr:root.length=16) (hn:n≤9223372036854775807) (hp:z2p p) (hl:p.length≤1000):z6ad.pre [.agg (bys old),.agg (bys root),i64 m,i64 n,.sl .plain nl p.length (bys (dgs p))]=True:=eq_true ⟨old,root,m,n,nl,p,ho,hr,hn,hp,hl,rfl⟩
theorem z42a {old root:List UInt8} {m n:Int} {nl:Option Bool} {p:List (List UInt8)} (hp:z2p p):z6ad.post [.agg (bys old),.agg (bys root),i64 m,i64 n,.sl .plain nl p.length (bys (dgs p))]=bo (vpN old root m n p):=by
 show bo (vpN (gBs (gCs (.agg (bys old)))) (gBs (gCs (.agg (bys root)))) m n (gDs (.sl .plain nl p.length (bys (dgs p)))))=_
 rw[z8A hp]
 simp
end Go.Abs
end

section
namespace Go.Abs
theorem z2Ra {α β:Type}:∀(a:List α) (b:List β) (x:α) (y:β),a.length=b.length→(a++[x]).zip (b++[y])=a.zip b++[(x,y)]
 |[],[],_,_,_=>rfl
 |[],_::_,_,_,h=>by simp at h
 |_::_,[],_,_,h=>by simp at h
 |a::l,b::m,x,y,h=>by
  simp only[List.cons_append,List.zip_cons_cons]
  rw[z2Ra l m x y (by simpa using h)]
end Go.Abs
end

section
namespace Go.Abs
def z9C:Nat→List (List UInt8)→List (List UInt8)→List (List UInt8)
 |_,q,[]=>q
 |n,q,d::l=>z9C (n+1) (z0ra q d (t1N n)) l
theorem z1sa:∀(a b:List (List UInt8)) (n:Nat) (q:List (List UInt8)),z9C n q (a++b)=z9C (n+a.length) (z9C n q a) b
 |[],_,_,_=>rfl
 |d::a,b,n,q=>by
  rw[List.cons_append,z9C,z9C,z1sa a b,List.length_cons,show n+1+a.length=n+(a.length+1) by omega]
theorem z2Zc (n:Nat):oN (n+1)+t1N n=oN n+1:=by
 induction n using Nat.strongRecOn with
 |ind n ih=>
  by_cases h:n% 2=1
  ·have:=ih (n/2) (by omega)
   rw[z9Ka h,z86 n,z86 (n+1),show(n+1)/2=n/2+1 by omega]
   omega
  ·rw[z5ta (by omega),z86 n,z86 (n+1),show(n+1)/2=n/2 by omega]
   omega
theorem z3Mb {q:List (List UInt8)} {n:Nat} (d:List UInt8) (h:q.length=oN n):(z0ra q d (t1N n)).length=oN (n+1):=by
 have h1:=z9Da n
 have h2:=z2Zc n
 rw[z0ra,List.length_append,List.length_take,List.length_singleton]
 omega
theorem z6U:∀(l:List (List UInt8)) {q:List (List UInt8)} {n:Nat},q.length=oN n→(z9C n q l).length=oN (n+l.length)
 |[],_,_,h=>h
 |d::l,q,n,h=>by
  rw[z9C,z6U l (z3Mb d h),List.length_cons,show n+1+l.length=n+(l.length+1) by omega]
theorem z39c {q:List (List UInt8)} (d:List UInt8):∀t,(z7Wa q d t).length=16
 |0=>z1h _ _
 |_+1=>z1h _ _
theorem z1Ka:∀{l q:List (List UInt8)} {n:Nat},z2p q→z2p (z9C n q l)
 |[],_,_,h=>h
 |d::l,q,n,h=>z1Ka (l:=l) (by rw[z0ra];exact z4Qa.2 ⟨z9v h _,z4g.2 ⟨z39c d _,z8n⟩⟩)
def z8wa (q:List (List UInt8)):List UInt8:=z3Aa q (q.length-1)
theorem z8kb {a:List UInt8} {q:List (List UInt8)} (h:0<q.length):z8wa (a::q)=nd a (z8wa q):=z6pb a q h
theorem z6eb (a:List UInt8):z8wa [a]=a:=rfl
theorem z01c (k:Nat):oN (2^k-1)=k:=by
 induction k with
 |zero=>exact z5C
 |succ k ih=>
  have hp:=Nat.two_pow_pos k
  rw[Nat.pow_succ,z86,show(2^k*2-1)/2=2^k-1 by omega,ih]
  omega
theorem z5Va (k:Nat) (a:List UInt8):∀(l:List (List UInt8)) (m:Nat) (q:List (List UInt8)),q.length=oN m→m+l.length<2^k→z9C (2^k+m) (a::q) l=a::z9C m q l
 |[],_,_,_,_=>rfl
 |d::l,m,q,hq,h=>by
  rw[List.length_cons] at h
  rw[z9C,z9C,z2yb k m (by omega),z5kb _ _ _ _ (by rw[hq];exact z9Da m),Nat.add_assoc]
  exact z5Va k a l (m+1) _ (z3Mb d hq) (by omega)
theorem z31b (k:Nat) (a:List UInt8) (l:List (List UInt8)) (m:Nat) (q:List (List UInt8)) (hq:q.length=oN m) (h:m+l.length=2^k) (hl:0<l.length):z9C (2^k+m) (a::q) l=[nd a (z8wa (z9C m q l))]:=by
 have hp:=Nat.two_pow_pos k
 obtain⟨l',d,rfl⟩:∃l' d,l=l'++[d]:=⟨l.dropLast,l.getLast (by intro h0;rw[h0] at hl;simp at hl),(List.dropLast_concat_getLast _).symm⟩
 rw[List.length_append,List.length_singleton] at h
 have e1:m+l'.length=2^k-1:=by omega
 have h1:=z6U l' hq
 rw[e1,z01c] at h1
 rw[z1sa,z1sa,z5Va k a l' m q hq (by omega),Nat.add_assoc,e1]
 generalize z9C m q l'=r at*
 have e2:2^k+(2^k-1)=2^(k+1)-1:=by rw[Nat.pow_succ];omega
 rw[e2]
 show z0ra (a::r) d (t1N _)=[nd a (z8wa (z0ra r d (t1N _)))]
 rw[z8Ra,z8Ra,z0ra,z0ra,List.length_cons,h1,Nat.sub_self,Nat.sub_self,List.take_zero,List.take_zero,List.nil_append,List.nil_append,z6eb,←h1,z5Nb]
 rfl
theorem z2kb (k:Nat) (a:List UInt8) (l:List (List UInt8)) (m:Nat) (q:List (List UInt8)) (hq:q.length=oN m) (h:m+l.length≤2^k) (h1:m<2^k) (h0:0<m+l.length):z8wa (z9C (2^k+m) (a::q) l)=nd a (z8wa (z9C m q l)):=by
 by_cases he:m+l.length=2^k
 ·rw[z31b k a l m q hq he (by omega),z6eb]
 ·rw[z5Va k a l m q hq (by omega),z8kb (by rw[z6U l hq];exact z6wa h0)]
theorem z0Fb (k:Nat):∀(b a:List (List UInt8)),(a++b).length<2^k→z9C a.length (z5Fa k a) b=z5Fa k (a++b)
 |[],a,_=>by rw[List.append_nil];rfl
 |d::b,a,h=>by
  have e:a++d::b=(a++[d])++b:=by simp
  rw[z9C,z4Db k a d (by simp at h;omega),e,←z0Fb k b (a++[d]) (by rw[←e];exact h)]
  simp
theorem z2Kc (n:Nat):n<2^n:=Nat.lt_two_pow_self
theorem z7Kb:∀k,z5Fa k []=[]
 |0=>rfl
 |k+1=>by
  have hp:=Nat.two_pow_pos k
  rw[z5Fa,if_neg (by rw[List.length_nil];omega),z7Kb k]
theorem z64b {l:List (List UInt8)} (h:0<l.length):z8wa (z9C 0 [] l)=root l:=by
 have:=z0Fb l.length l [] (by simpa using z2Kc l.length)
 rw[z7Kb,List.nil_append] at this
 rw[show z9C 0 [] l=z5Fa l.length l from this,z8wa,z7fb _ _ (z2Kc _) h]
theorem z0Kd (k:Nat):oN (2^k)=1:=by
 have:=z3ob (k:=k) (m:=0) (Nat.two_pow_pos k)
 rw[z5C] at this
 exact this
def prf (n m:Nat) (w:Bool) (q l:List (List UInt8)):List (List UInt8):=
 if h:2≤n∧m≠n then(if m≤spl n then prf (spl n) m w q (l.take (spl n-m))++[root (l.drop (spl n-m))] else prf (n-spl n) (m-spl n) false q.tail l++[q.headD []]) else if w then [] else [z8wa q]
termination_by n
decreasing_by
 ·exact z10 h.1
 ·have:=z6Y n;omega
theorem z1Wa {n m:Nat} (h:2≤n∧m≠n) (w:Bool) (q l:List (List UInt8)):prf n m w q l=if m≤spl n then prf (spl n) m w q (l.take (spl n-m))++[root (l.drop (spl n-m))] else prf (n-spl n) (m-spl n) false q.tail l++[q.headD []]:=by rw[prf,dif_pos h]
theorem z16a {n m:Nat} (h:m=n) (w:Bool) (q l:List (List UInt8)):prf n m w q l=if w then [] else [z8wa q]:=by rw[prf,dif_neg (fun h'=>h'.2 h)]
theorem z7db (n m:Nat) (w:Bool) (q l:List (List UInt8)) (h1:1≤m) (hn:m+l.length=n) (hq:q.length=oN m):∃(S:List (List UInt8)) (z:List UInt8),(prf n m w q l).reverse=S++(if w&&(dpd m n).all (! ·) then [] else [z])∧S.length=(dpd m n).length∧
  z2ma ((dpd m n).reverse.zip S.reverse) z z=(z8wa q,z8wa (z9C m q l))∧((dpd m n).all (! ·)=true→z=z8wa q):=by
 by_cases he:m=n
 ·have h0:l=[]:=List.length_eq_zero_iff.1 (by omega)
  rw[z1bb (by omega),z16a he,h0]
  refine⟨[],z8wa q,?_,rfl,rfl,fun _=>rfl⟩
  cases w<;>rfl
 ·have h2:2≤n:=by omega
  have hs:=z10 h2
  have hp:=z6Y n
  have hw:=z5Z h2
  rw[z8zb ⟨h1,by omega⟩,z1Wa ⟨h2,he⟩]
  by_cases hk:m≤spl n
  ·have lt:(l.take (spl n-m)).length=spl n-m:=by rw[List.length_take];omega
   have ld:(l.drop (spl n-m)).length=n-spl n:=by rw[List.length_drop];omega
   obtain⟨S,z,e1,e2,e3,e4⟩:=z7db (spl n) m w q (l.take (spl n-m)) h1 (by omega) hq
   rw[if_pos hk,if_pos hk]
   refine⟨root (l.drop (spl n-m))::S,z,?_,by simp[e2],?_,fun ha=>e4 (by simpa using ha)⟩
   ·rw[List.reverse_append,e1];simp
   ·have e5:z9C m q l=z9C (spl n) (z9C m q (l.take (spl n-m))) (l.drop (spl n-m)):=by
     have:=z1sa (l.take (spl n-m)) (l.drop (spl n-m)) m q
     rwa[List.take_append_drop,lt,show m+(spl n-m)=spl n by omega] at this
    have e6:=z6U (l.take (spl n-m)) hq
    rw[lt,show m+(spl n-m)=spl n by omega] at e6
    obtain⟨R,hR⟩:∃R,z9C m q (l.take (spl n-m))=[R]:=List.length_eq_one_iff.1 (by rw[e6];exact z0Kd _)
    have e7:=z2kb (Nat.log2 (n-1)) R (l.drop (spl n-m)) 0 [] z5C.symm (by rw[ld];change 0+(n-spl n)≤spl n;omega) (Nat.two_pow_pos _) (by rw[ld];omega)
    rw[Nat.add_zero] at e7
    change z8wa (z9C (spl n) [R] _)=_ at e7
    rw[z64b (by rw[ld];omega)] at e7
    rw[List.reverse_cons,List.reverse_cons,z2Ra _ _ _ _ (by simp[e2]),z8ea,if_neg (by decide),e3,e5,hR,z6eb,e7]
  ·rw[if_neg hk,if_neg hk]
   have hm:2^Nat.log2 (n-1)+(m-spl n)=m:=by change spl n+(m-spl n)=m;omega
   have ho:oN m=oN (m-spl n)+1:=by
    have:=z3ob (k:=Nat.log2 (n-1)) (m:=m-spl n) (by change m-spl n<spl n;omega)
    rwa[hm] at this
   obtain⟨a,q',rfl⟩:∃a q',q=a::q':=by
    cases q with
    |nil=>simp at hq;omega
    |cons a q'=>exact⟨a,q',rfl⟩
   have hq':q'.length=oN (m-spl n):=by simp at hq;omega
   obtain⟨S,z,e1,e2,e3,_⟩:=z7db (n-spl n) (m-spl n) false q' l (by omega) (by omega) hq'
   have e7:=z2kb (Nat.log2 (n-1)) a l (m-spl n) q' hq' (by change m-spl n+l.length≤spl n;omega) (by change m-spl n<spl n;omega) (by omega)
   rw[hm] at e7
   refine⟨a::S,z,?_,by simp[e2],?_,fun ha=>by simp at ha⟩
   ·rw[List.reverse_append,List.tail_cons,e1];simp
   ·rw[List.reverse_cons,List.reverse_cons,z2Ra _ _ _ _ (by simp[e2]),z8ea,if_pos rfl,e3,e7,z8kb (by rw[hq'];exact z6wa (by omega))]
termination_by n
decreasing_by
 ·exact z10 h2
 ·have:=z6Y n;omega
theorem z6pd {n m:Nat} {q l:List (List UInt8)} (h1:1≤m) (hn:m+l.length=n) (hq:q.length=oN m) (r:List UInt8):vpN (z8wa q) r m n (prf n m true q l)=decide (z8wa (z9C m q l)=r):=by
 obtain⟨S,z,e1,e2,e3,e4⟩:=z7db n m true q l h1 hn hq
 have hc:(1:Int)≤(m:Int)∧(m:Int)≤(n:Int):=by omega
 have e1:prf n m true q l=(S++(if true&&(dpd m n).all (! ·) then [] else [z])).reverse:=by rw[←e1,List.reverse_reverse]
 rw[vpN,if_pos hc,Int.toNat_natCast,Int.toNat_natCast,e1]
 unfold vpS
 cases ha:(dpd m n).all (! ·) with
 |true=>
  have ez:=e4 ha
  rw[ez] at e3
  simp only[Bool.and_true,if_true,List.append_nil,vpE,List.length_reverse,e2,e3,decide_true,Bool.true_and]
 |false=>
  simp[vpE,e2,e3]
theorem z6Ua (n m:Nat) (w:Bool) (q l:List (List UInt8)) (h1:1≤m) (hn:m≤n):(prf n m w q l).length≤n:=by
 by_cases he:m=n
 ·rw[z16a he];cases w<;>simp<;>omega
 ·have h2:2≤n:=by omega
  have hs:=z10 h2
  have hp:=z6Y n
  rw[z1Wa ⟨h2,he⟩]
  split
  ·have:=z6Ua (spl n) m w q (l.take (spl n-m)) h1 (by omega)
   rw[List.length_append,List.length_singleton];omega
  ·have:=z6Ua (n-spl n) (m-spl n) false q.tail l (by omega) (by omega)
   rw[List.length_append,List.length_singleton];omega
termination_by n
decreasing_by
 all_goals omega
end Go.Abs
end

section
namespace Go.Abs
mutual
def fgN:z2a→z2a
 | .sl m _ n cs=> .sl m none n cs
 | .agg cs=> .agg (z9id cs)
 | .tup cs=> .tup (z9id cs)
 | .undef=> .undef
 | .lit x=> .lit x
 | .bp i o=> .bp i o
 | .bv i e o n c=> .bv i e o n c
 | .ep cs=> .ep cs
 | .fn f x y=> .fn f x y
 | .otup e nl n cs r=> .otup e nl n cs r
 | .oagg p e nl n cs r=> .oagg p e nl n cs r
def z9id:List z2a→List z2a
 |[]=>[]
 |c::cs=>fgN c::z9id cs
end
theorem z5wb {K:Con} {S:Nat→Nat} {w:World} {m:z0ka} {nl:Option Bool} {n:Nat} {cs:List z2a} {v:Value} (h:z6c K S w (.sl m nl n cs) v):z6c K S w (.sl m none n cs) v:=by
 simp only[z6c] at h⊢
 rcases h with⟨b,o,cap,h1,h2,h3,_,h5⟩|⟨q,h1,h2,h3,_⟩
 ·exact .inl ⟨b,o,cap,h1,h2,h3,by simp,h5⟩
 ·exact .inr ⟨q,h1,h2,h3,by simp⟩
mutual
theorem z2Mc {K:Con} {g:Gh} {w:World}:∀(d:z2a) (v:Value) (l:Option Loc),Rep K g w l d v→Rep K g w l (fgN d) v
 | .undef,_,_,h=>by simpa only[fgN] using h
 | .lit _,_,_,h=>by simpa only[fgN] using h
 | .bp _ _,_,_,h=>by simpa only[fgN] using h
 | .bv _ _ _ _ _,_,_,h=>by simpa only[fgN] using h
 | .ep _,_,_,h=>by simpa only[fgN] using h
 | .fn _ _ _,_,_,h=>by simpa only[fgN] using h
 | .otup _ _ _ _ _,_,_,h=>by simpa only[fgN] using h
 | .oagg _ _ _ _ _ _,_,_,h=>by simpa only[fgN] using h
 | .sl .plain nl n cs,v,l,h=>by
  simp only[fgN,Rep] at h⊢;exact z5wb h
 | .sl .clip nl n cs,v,l,h=>by
  simp only[fgN,Rep] at h⊢;exact z5wb h
 | .sl (.own e) nl n cs,v,l,h=>by
  simp only[fgN,Rep] at h⊢;exact⟨z5wb h.1,h.2⟩
 | .agg cs,v,l,h=>by
  simp only[fgN,Rep] at h⊢
  obtain⟨a,rfl,h⟩:=h
  exact⟨a,rfl,z8vb cs _ h⟩
 | .tup cs,v,l,h=>by
  simp only[fgN,Rep] at h⊢
  obtain⟨a,rfl,h⟩:=h
  exact⟨a,rfl,z8vb cs _ h⟩
theorem z8vb {K:Con} {g:Gh} {w:World}:∀(cs:List z2a) (vs:List Value),z5d K g w cs vs→z5d K g w (z9id cs) vs
 |[],_,h=>by simpa only[z9id] using h
 |c::cs,vs,h=>by
  simp only[z9id,z5d] at h⊢
  obtain⟨x,xs,rfl,h1,h2⟩:=h
  exact⟨x,xs,rfl,z2Mc c x none h1,z8vb cs xs h2⟩
end
def fgC (c:z5a):z5a:=⟨c.pre,fun ds=>fgN (c.post ds)⟩
theorem z7oc {K:Cx} {f:Nat} {c:z5a} (h:z6a K f c):z6a K f (fgC c):=by
 refine⟨h.1,fun S w ds vs hg hd hp=>(h.2 S w ds vs hg hd hp).mono ?_⟩
 rintro e w' ⟨v,g',h1,h2,h3,h4⟩
 exact⟨v,g',h1,h2,z2Mc _ _ _ h3,h4⟩
end Go.Abs
end

section
namespace Go.Abs
set_option maxRecDepth 100000
set_option maxHeartbeats 8000000
def z9ad (s:Nat) (q:List (List UInt8)) (es:List z3h):z2a:= .tup [pkA ((s+es.length:Nat):Int) none (z9C s q (z4h es)),i64 0]
def z9nc:z5a:=⟨fun ds=>∃(s:Nat) (ne:Option Bool) (q:List (List UInt8)) (es:List z3h),z2p q∧q.length=oN s∧z13a es∧es.length≤1000∧s+es.length≤62000∧ds=[pkA (s:Int) none q,z5n ne es],
 fun ds=>z9ad (gPn (nth ds 0)).toNat (gPl (nth ds 0)) (z59a (gNn (nth ds 1)) (gCs (nth ds 1)))⟩
theorem z7ed {s:Nat} {ne:Option Bool} {q:List (List UInt8)} {es:List z3h} (h:z2p q) (ho:q.length=oN s) (he:z13a es) (h1:es.length≤1000) (h2:s+es.length≤62000):z9nc.pre [pkA (s:Int) none q,z5n ne es]=True:=eq_true ⟨s,ne,q,es,h,ho,he,h1,h2,rfl⟩
theorem z5Lb {s:Nat} {ne:Option Bool} {q:List (List UInt8)} {es:List z3h} (h:z2p q) (he:z13a es):z9nc.post [pkA (s:Int) none q,z5n ne es]=z9ad s q es:=by
 show z9ad (gPn (pkA (s:Int) none q)).toNat (gPl (pkA (s:Int) none q)) (z59a es.length (z6h es))=_
 rw[z3Qa he,show gPn (pkA (s:Int) none q)=(s:Int) from rfl,show gPl (pkA (s:Int) none q)=gDs (.sl .plain none q.length (bys (dgs q))) from rfl,z8A h,Int.toNat_natCast]
theorem z5rb (n:Nat):oN n≤n:=by
 induction n using Nat.strongRecOn with
 |ind n ih=>
  rw[z86]
  by_cases h:n=0
  ·subst h;rw[show 0/2=0 from rfl,z5C];simp
  ·have:=ih (n/2) (by omega);omega
theorem z26b {s:Nat} {q:List (List UInt8)} {d:List UInt8} (h:z2p q) (ho:q.length=oN s) (hs:s≤62000):(fgC z6Wb).post [.agg [i64 (s:Int),.sl .plain none q.length (bys (dgs q))],.agg (bys d)]= .tup [.agg [i64 ((s+1:Nat):Int),.sl .plain none (z0ra q d (t1N s)).length (bys (dgs (z0ra q d (t1N s))))],i64 0]:=by
 have h1:z7Wb (s:Int) q d=(((s:Int)+1,z0ra q d (t1N s)),0):=by
  rw[z7Wb,if_pos ⟨by simp[okP,ho];omega,by omega⟩,Int.toNat_natCast]
 show fgN (z6Wb.post _)=_
 rw[z0pb h rfl rfl,h1]
 rw[show((s+1:Nat):Int)=(s:Int)+1 by simp]
 rfl
theorem z9Ob {es:List z3h} (h:z13a es) {i:Nat} (hi:i<es.length):z2Ia (z6h es) i= .agg (z8j none none none es[i]):=by rw[z2Ia,z8fb h hi]
theorem z3Lb {es:List z3h} (h:z13a es) (h1:es.length≤1000) (nl:Option Bool):(z6wb z1Ma).pre [] [.ep [.sl .plain nl es.length (z6h es)]]:=
 ⟨rfl,nl,es.length,z6h es,z3z h,by omega,fun d hd=>by
  obtain⟨x,_,hx⟩:=List.mem_flatMap.1 hd
  exact⟨(z2mb es d hd).1,(z2mb es d hd).2,(z6Db d hx).2⟩,fun i hi=>by
  rw[z9Ob h hi]
  have hs:=h _ (List.getElem_mem hi)
  rw[z3Ta hs]
  exact⟨of_eq_true (z6Ac hs),by simp,rfl,by simp[yOk],by simp⟩,rfl⟩
theorem z2Zb {es:List z3h} (h:z13a es) (nl:Option Bool) (i:Nat):(z6wb z1Ma).el [] [.ep [.sl .plain nl es.length (z6h es)]] i=if hi:i<es.length then some [.agg (bys (z4j 8 [z7Xa es[i]]))] else none:=by
 rw[z43b]
 by_cases hi:i<es.length
 ·rw[if_pos hi,dif_pos hi,z9Ob h hi,z3Ta (h _ (List.getElem_mem hi))]
 ·rw[if_neg hi,dif_neg hi]
theorem z4qd (E:Env) (h350:E.G 350=z1dc) (h182:E.G 182=fgC z6Wb) (hI:E.I 372=z6wb z1Ma):∀ds,z9nc.pre ds→ds.length=z0i.n∧awp E z0i.body (z0m z0i.res (z9nc.post ds)) (z3b z0i.wr ds):=by
 rintro _ ⟨s,ne,q,es,hq,ho,he,h1,h2,rfl⟩
 rw[z5Lb hq he]
 unfold pkA z5w z5n
 have p1:z1dc.pre [.sl .plain ne es.length (z6h es)]=True:=eq_true ⟨ne,es.length,z6h es,z3z he,by simp,rfl⟩
 have p2:z1dc.post [.sl .plain ne es.length (z6h es)]= .fn 372 [] [.ep [.sl .plain ne es.length (z6h es)]]:=rfl
 generalize hQf:z0m z0i.res (z9ad s q es)=Qf
 simp(maxSteps:=1000000) (disch:=first|omega|(simp;done)|(simp;omega)) [z9a,z0i,h350,p1,p2]
 have hel:=z2Zb he ne
 have hpre:=z3Lb he h1 ne
 have hdl:(z4h es).length=es.length:=by simp[z4h]
 refine z4a fun Q1 hQ1=> ?_
 have hA:∀i,z2p (z9C s q ((z4h es).take i)):=fun i=>z1Ka hq
 have hAl:∀i,i≤es.length→(z9C s q ((z4h es).take i)).length=oN (s+i):=fun i hi=>by
  rw[z6U _ ho,List.length_take,hdl,Nat.min_eq_left hi]
 refine z6sa [] [.ep [.sl .plain ne es.length (z6h es)]] (by simp) (by simp) (by rw[hI];rfl) (by rw[hI];exact hpre) (by simp) es.length (fun i bx=>i≤es.length∧bx=[(2,some [i64 ((s+i:Nat):Int),.sl .plain none (z9C s q ((z4h es).take i)).length (bys (dgs (z9C s q ((z4h es).take i))))]),(4,some [i64 0,.sl .plain none 0 []]),(5,some [i64 0]),(10,none)]) ⟨Nat.zero_le _,by simp[z9C]⟩ (fun i bx h=>h.1) (fun i bx h hn=> ?_) (fun i bx xs hi hx=> ?_)
 ·rw[hI,hel] at hn
  obtain⟨hi,rfl⟩:=h
  split at hn
  ·cases hn
  ·have hii:i=es.length:=by omega
   subst hii
   rw[List.take_of_length_le (by omega)]
   have hA1:=z0q (hA es.length)
   rw[List.take_of_length_le (by omega)] at hA1
   rw[hQ1]
   simp(maxSteps:=1000000) (disch:=first|omega|(simp;done)|(simp;omega)) [z9a,z0ya,z8r,z3wa,←hQf,z9ad,pkA,z5w,z0i,z7F,z1I]
 ·rw[hI,hel] at hx
  obtain⟨hi,rfl⟩:=hi
  split at hx
  ·rename_i hlt
   have hx':=(Option.some.inj hx).symm
   subst hx'
   have dl:(z4j 8 [z7Xa es[i]]).length=16:=z1h _ _
   refine⟨rfl,by simp,fun V=> ?_⟩
   have hA1:=z0q (hA i)
   have ec:((s+i:Nat):Int)=(s:Int)+(i:Int):=by simp
   have ec1:((s+i+1:Nat):Int)=(s:Int)+(i:Int)+1:=by simp
   have pp:(fgC z6Wb).pre [.agg [i64 ((s+i:Nat):Int),.sl .plain none (z9C s q ((z4h es).take i)).length (bys (dgs (z9C s q ((z4h es).take i))))],.agg (bys (z4j 8 [z7Xa es[i]]))]=True:=z3Ac (nl:=none) ⟨by omega,by omega⟩ (hA i) (by have:=hAl i hi;have:=z5rb (s+i);omega) dl rfl rfl
   have pq:=z26b (s:=s+i) (d:=z4j 8 [z7Xa es[i]]) (hA i) (hAl i hi) (by omega)
   have hnx:z9C s q ((z4h es).take (i+1))=z0ra (z9C s q ((z4h es).take i)) (z4j 8 [z7Xa es[i]]) (t1N (s+i)):=by
    rw[show(z4h es).take (i+1)=(z4h es).take i++[z4j 8 [z7Xa es[i]]] by rw[List.take_succ_eq_append_getElem (by omega)];simp[z4h],z1sa,List.length_take,hdl,Nat.min_eq_left hi]
    rfl
   rw[ec,ec1] at pq
   rw[ec] at pp
   rw[hnx]
   generalize z9C s q ((z4h es).take i)=A at*
   generalize z0ra A (z4j 8 [z7Xa es[i]]) (t1N (s+i))=B at*
   simp(maxSteps:=1000000) (disch:=first|omega|(simp;done)|(simp;omega)) [z9a,z0ya,z8r,z6va,z9va,dl,z8a,h182,z0g dl,pp,pq,kT,kF,z7F,z1I,z9Eb,z0Ea]
   exact⟨by omega,by omega⟩
  ·cases hx
end Go.Abs
end

section
namespace Go.Abs
set_option maxRecDepth 100000
set_option maxHeartbeats 8000000
def z53a (l:z3M) (n:Int):(Int×List (List UInt8))×Nat:=if n<l.size∨(l.len:Int)<n then((0,[]),11) else((n,z9C l.size l.roots (z4h (l.ents.take (n.toNat-l.size)))),0)
def z9hc:z5a:=⟨fun ds=>∃(l:z3M) (n:Int),l.ok∧z1n n∧ds=[z9W none none l,i64 n],fun ds=> .tup [pkA (z53a (z03a (nth ds 0)) (asI (nth ds 1))).1.1 none (z53a (z03a (nth ds 0)) (asI (nth ds 1))).1.2,i64 ((z53a (z03a (nth ds 0)) (asI (nth ds 1))).2:Int)]⟩
theorem z0wb {l:z3M} {n:Int} (h:l.ok) (hn:z1n n):z9hc.pre [z9W none none l,i64 n]=True:=eq_true ⟨l,n,h,hn,rfl⟩
theorem z9Qa {l:z3M} (n:Int) (h:l.ok):z9hc.post [z9W none none l,i64 n]= .tup [pkA (z53a l n).1.1 none (z53a l n).1.2,i64 ((z53a l n).2:Int)]:=by
 show z2a.tup [pkA (z53a (z03a (z9W none none l)) n).1.1 none (z53a (z03a (z9W none none l)) n).1.2,i64 ((z53a (z03a (z9W none none l)) n).2:Int)]=_
 rw[z0ob h]
theorem z3zd (E:Env) (h349:E.G 349=z0Qa) (h180:E.G 180=z2ib) (h354:E.G 354=z9nc):∀ds,z9hc.pre ds→ds.length=z8u.n∧awp E z8u.body (z0m z8u.res (z9hc.post ds)) (z3b z8u.wr ds):=by
 rintro _ ⟨l,n,h,hn,rfl⟩
 rw[z9Qa n h]
 have hs:=h.s
 have p3:z0Qa.pre [z9W none none l]=True:=z4Ga h
 have p4:z0Qa.post [z9W none none l]=i64 (l.len:Int):=z63 h
 have hll:l.len=l.size+l.ents.length:=rfl
 simp only[z9W,z5w,z5n] at p3 p4⊢
 by_cases c1:n<l.size
 ·have hr:z53a l n=((0,[]),11):=by rw[z53a,if_pos (.inl c1)]
  have d1:decide (n<(l.size:Int))=true:=decide_eq_true c1
  rw[hr]
  simp(maxSteps:=1000000) (disch:=first|omega|(simp;done)|(simp;omega)) [z9a,z8u,pkA,z5w,d1,kT,kF,z7F,z1I]
 ·have d1:decide (n<(l.size:Int))=false:=decide_eq_false c1
  by_cases c2:(l.len:Int)<n
  ·have hr:z53a l n=((0,[]),11):=by rw[z53a,if_pos (.inr c2)]
   have d2:decide ((l.len:Int)<n)=true:=decide_eq_true c2
   rw[hr]
   simp(maxSteps:=1000000) (disch:=first|omega|(simp;done)|(simp;omega)) [z9a,z8u,pkA,z5w,d1,d2,h349,p3,p4,kT,kF,z7F,z1I]
  ·have hr:z53a l n=((n,z9C l.size l.roots (z4h (l.ents.take (n.toNat-l.size)))),0):=by rw[z53a,if_neg (by omega)]
   have d2:decide ((l.len:Int)<n)=false:=decide_eq_false c2
   have hlen:=z3z h.e
   have htk:=z5Sb h.e (n.toNat-l.size)
   have hsm:z13a (l.ents.take (n.toNat-l.size)):=fun x hx=>h.e x (List.mem_of_mem_take hx)
   have hle:(l.ents.take (n.toNat-l.size)).length=n.toNat-l.size:=by rw[List.length_take];omega
   have q1:z9nc.pre [pkA (l.size:Int) none l.roots,z5n none (l.ents.take (n.toNat-l.size))]=True:=z7ed h.r h.o hsm (by have:=h.n;omega) (by omega)
   have q2:z9nc.post [pkA (l.size:Int) none l.roots,z5n none (l.ents.take (n.toNat-l.size))]=z9ad l.size l.roots (l.ents.take (n.toNat-l.size)):=z5Lb h.r hsm
   have en:((l.size+(n.toNat-l.size):Nat):Int)=n:=by omega
   rw[z9ad,hle,en] at q2
   simp only[pkA,z5w,z5n,hle] at q1 q2
   have i1:(n-(l.size:Int)).toNat=n.toNat-l.size:=by omega
   have k1:z2ib.pre [.sl .plain none l.roots.length (bys (dgs l.roots))]=True:=eq_true ⟨none,l.roots,h.r,by have:=h.o;have:=z5rb l.size;omega,rfl⟩
   have k2:z2ib.post [.sl .plain none l.roots.length (bys (dgs l.roots))]= .sl (.own 16) none l.roots.length (bys (dgs l.roots)):=by
    show z2Fa none (gDs (.sl .plain none l.roots.length (bys (dgs l.roots))))=_
    rw[z8A h.r];rfl
   rw[hr]
   simp(maxSteps:=1000000) (disch:=first|omega|(simp;done)|(simp;omega)) [z9a,z8u,z0wa,pkA,z5w,d1,d2,h349,p3,p4,kT,kF,z7F,z1I,h180,k1,k2,h354,i1,hlen,htk,q1,q2]
   exact⟨by omega,by omega⟩
def z1ob (l:z3M):List UInt8:=(z4kb l.len (z9C l.size l.roots (z4h l.ents))).1
def z1Ab:z5a:=⟨fun ds=>∃l:z3M,l.ok∧ds=[z9W none none l],fun ds=> .agg (bys (z1ob (z03a (nth ds 0))))⟩
theorem z4Ob {l:z3M} (h:l.ok):z1Ab.pre [z9W none none l]=True:=eq_true ⟨l,h,rfl⟩
theorem z7Va {l:z3M} (h:l.ok):z1Ab.post [z9W none none l]= .agg (bys (z1ob l)):=by
 show z2a.agg (bys (z1ob (z03a (z9W none none l))))=_
 rw[z0ob h]
theorem z08c (E:Env) (h349:E.G 349=z0Qa) (h348:E.G 348=z9hc) (h185:E.G 185=z6ub):∀ds,z1Ab.pre ds→ds.length=z6L.n∧awp E z6L.body (z0m z6L.res (z1Ab.post ds)) (z3b z6L.wr ds):=by
 rintro _ ⟨l,h,rfl⟩
 rw[z7Va h]
 have hs:=h.s
 have hll:l.len=l.size+l.ents.length:=rfl
 have p3:z0Qa.pre [z9W none none l]=True:=z4Ga h
 have p4:z0Qa.post [z9W none none l]=i64 (l.len:Int):=z63 h
 have q1:z9hc.pre [z9W none none l,i64 (l.len:Int)]=True:=z0wb h ⟨by omega,by omega⟩
 have q2:=z9Qa (l:=l) (l.len:Int) h
 have hp:z53a l (l.len:Int)=(((l.len:Int),z9C l.size l.roots (z4h l.ents)),0):=by
  rw[z53a,if_neg (by omega),Int.toNat_natCast,List.take_of_length_le (by omega)]
 rw[hp] at q2
 have hA:z2p (z9C l.size l.roots (z4h l.ents)):=z1Ka h.r
 have hAl:(z9C l.size l.roots (z4h l.ents)).length=oN l.len:=by rw[z6U _ h.o];simp[z4h,z3M.len]
 have t1:z6ub.pre [.agg [i64 (l.len:Int),.sl .plain none (z9C l.size l.roots (z4h l.ents)).length (bys (dgs (z9C l.size l.roots (z4h l.ents))))]]=True:=z0Jb ⟨by omega,by omega⟩ hA (by have:=z5rb l.len;omega) rfl rfl
 have t2:=z1Fa (n:=(l.len:Int)) (m:= .plain) (nl:=none) hA rfl rfl
 have ho:okP (l.len:Int) (z9C l.size l.roots (z4h l.ents)).length=true:=by simp[okP,hAl];omega
 have tl:(z4kb (l.len:Int) (z9C l.size l.roots (z4h l.ents))).1.length=16:=by
  rw[z4kb,if_pos ho]
  show(if(l.len:Int)=0 then root [] else _).length=16
  split
  ·exact z5ia []
  ·exact z9F hA (by rw[hAl];exact z6wa (by omega)) _
 simp only[z9W,z5w,z5n,pkA] at p3 p4 q1 q2⊢
 unfold z1ob
 generalize z4kb (l.len:Int) (z9C l.size l.roots (z4h l.ents))=T at*
 generalize z9C l.size l.roots (z4h l.ents)=A at*
 simp(maxSteps:=1000000) (disch:=first|omega|(simp;done)|(simp;omega)) [z9a,z6L,h349,p3,p4,h348,q1,q2,h185,t1,t2,tl,z7F,z1I,z8a,z0g tl]
end Go.Abs
end

section
namespace Go.Abs
set_option maxRecDepth 100000
set_option maxHeartbeats 8000000
end Go.Abs
end

section
namespace Go.Abs
set_option maxRecDepth 100000
set_option maxHeartbeats 8000000
def gFe (d:z2a):List z3h:=match d with| .fn _ _ [.ep [.sl _ _ n cs]]=>z59a n cs|_=>[]
def z1pb:z5a:=⟨fun ds=>∃(ne:Option Bool) (es:List z3h),z13a es∧es.length≤1000∧ds=[.sl .plain (some true) 0 [],.fn 372 [] [.ep [z5n ne es]]],fun ds=>z2Fa none (z4h (gFe (nth ds 1)))⟩
def z0Mc:z5a:=⟨fun ds=>∃(ne:Option Bool) (es:List z3h),z13a es∧es.length≤1000∧ds=[.fn 372 [] [.ep [z5n ne es]]],fun ds=>z2Fa none (z4h (gFe (nth ds 0)))⟩
theorem z2Ib {ne:Option Bool} {es:List z3h} (h:z13a es):gFe (.fn 372 [] [.ep [z5n ne es]])=es:=z3Qa h
theorem z70c (E:Env) (hI:E.I 372=z6wb z1Ma):∀ds,z1pb.pre ds→ds.length=z7a.n∧awp E z7a.body (z0m z7a.res (z1pb.post ds)) (z3b z7a.wr ds):=by
 rintro _ ⟨ne,es,he,h1,rfl⟩
 rw[show z1pb.post [.sl .plain (some true) 0 [],.fn 372 [] [.ep [z5n ne es]]]=z2Fa none (z4h es) by show z2Fa none (z4h (gFe (.fn 372 [] [.ep [z5n ne es]])))=_;rw[z2Ib he]]
 generalize hQf:z0m z7a.res (z2Fa none (z4h es))=Qf
 have hel:=z2Zb he ne
 have hpre:=z3Lb he h1 ne
 have hdl:(z4h es).length=es.length:=by simp[z4h]
 unfold z5n
 simp(maxSteps:=1000000) (disch:=first|omega|(simp;done)|(simp;omega)) [z9a,z7a,z9ja]
 refine z4a fun Q1 hQ1=> ?_
 refine z6sa [] [.ep [.sl .plain ne es.length (z6h es)]] (by simp) (by simp) (by rw[hI];rfl) (by rw[hI];exact hpre) (by simp) es.length (fun i bx=>i≤es.length∧bx=[(2,some [.sl (.own 16) none i (bys (dgs ((z4h es).take i)))])]) ⟨Nat.zero_le _,by simp[dgs]⟩ (fun i bx h=>h.1) (fun i bx h hn=> ?_) (fun i bx xs hi hx=> ?_)
 ·rw[hI,hel] at hn
  obtain⟨hi,rfl⟩:=h
  split at hn
  ·cases hn
  ·have hii:i=es.length:=by omega
   subst hii
   rw[List.take_of_length_le (by omega)]
   rw[hQ1]
   simp(maxSteps:=1000000) (disch:=first|omega|(simp;done)|(simp;omega)) [z9a,z0ya,z8r,z1p,←hQf,z7a,z2Fa,hdl]
 ·rw[hI,hel] at hx
  obtain⟨hi,rfl⟩:=hi
  split at hx
  ·rename_i hlt
   have hx':=(Option.some.inj hx).symm
   subst hx'
   have dl:(z4j 8 [z7Xa es[i]]).length=16:=z1h _ _
   refine⟨rfl,by simp,fun V=> ?_⟩
   have hnx:(z4h es).take (i+1)=(z4h es).take i++[z4j 8 [z7Xa es[i]]]:=by rw[List.take_succ_eq_append_getElem (by omega)];simp[z4h]
   have hA1:=z0q (z9v (z0Mb es) i)
   rw[List.length_take,hdl,Nat.min_eq_left hi] at hA1
   have hnd:dgs ((z4h es).take i++[z4j 8 [z7Xa es[i]]])=dgs ((z4h es).take i)++z4j 8 [z7Xa es[i]]:=by simp[dgs]
   rw[hnx,hnd]
   generalize dgs ((z4h es).take i)=A at*
   simp(maxSteps:=1000000) (disch:=first|omega|(simp;done)|(simp;omega)) [z9a,z1a,z0a,z0ya,z8r,z9o,z7o,dl,z8a,z0g dl,kT,kF,z9Eb,z0Ea,hA1]
   exact⟨⟨by omega,by omega⟩,by omega⟩
  ·cases hx
theorem z0Ld (E:Env) (h371:E.G 371=z1pb):∀ds,z0Mc.pre ds→ds.length=z4d.n∧awp E z4d.body (z0m z4d.res (z0Mc.post ds)) (z3b z4d.wr ds):=by
 rintro _ ⟨ne,es,he,h1,rfl⟩
 rw[show z0Mc.post [.fn 372 [] [.ep [z5n ne es]]]=z2Fa none (z4h es) by show z2Fa none (z4h (gFe (.fn 372 [] [.ep [z5n ne es]])))=_;rw[z2Ib he]]
 have p1:z1pb.pre [.sl .plain (some true) 0 [],.fn 372 [] [.ep [z5n ne es]]]=True:=eq_true ⟨ne,es,he,h1,rfl⟩
 have p2:z1pb.post [.sl .plain (some true) 0 [],.fn 372 [] [.ep [z5n ne es]]]=z2Fa none (z4h es):=by show z2Fa none (z4h (gFe (.fn 372 [] [.ep [z5n ne es]])))=_;rw[z2Ib he]
 have ta:∀(bx:Nat→List z2a) (cs:List z2a),z7A bx (.ep cs)= .ep cs:=fun _ _=>rfl
 have oa:z9A [] (fun _=>none) (.fn 372 [] [.ep [z5n ne es]])=True:=eq_true ⟨by simp,by simp[z1u,z5n]⟩
 unfold z5n at*
 unfold z2Fa at*
 simp(maxSteps:=1000000) (disch:=first|omega|(simp;done)|(simp;omega)) [z9a,z4d,h371,p1,p2,ta,oa]
end Go.Abs
end

section
namespace Go.Abs
set_option maxRecDepth 100000
set_option maxHeartbeats 8000000
def z7mc:z5a:=⟨fun ds=>∃(nl:Option Bool) (l:List (List UInt8)),z2p l∧l.length≤1000000∧0<l.length∧ds=[z5w nl l],fun ds=> .agg (bys (z8wa (gDs (nth ds 0))))⟩
theorem z1bd {nl:Option Bool} {l:List (List UInt8)} (h:z2p l) (hl:l.length≤1000000) (h0:0<l.length):z7mc.pre [z5w nl l]=True:=eq_true ⟨nl,l,h,hl,h0,rfl⟩
theorem z1Nb {nl:Option Bool} {l:List (List UInt8)} (h:z2p l):z7mc.post [z5w nl l]= .agg (bys (z8wa l)):=by
 show z2a.agg (bys (z8wa (gDs (.sl .plain nl l.length (bys (dgs l))))))=_
 rw[z8A h]
theorem z2sd (E:Env) (h8:E.G 8=ofC) (hI184:E.I 184=z4lb) (h183:E.M 183=z9ub):∀ds,z7mc.pre ds→ds.length=z0l.n∧awp E z0l.body (z0m z0l.res (z7mc.post ds)) (z3b z0l.wr ds):=by
 rintro _ ⟨nl,l,hl,hlen,hpos,rfl⟩
 rw[z1Nb hl]
 unfold z5w
 generalize hQf:z0m z0l.res (.agg (bys (z8wa l)))=Qf
 have hd:=z0q hl
 have hat:=z5wa hl (show l.length-1<l.length by omega)
 have hal:=z7I hl (show l.length-1<l.length by omega)
 have e1:((l.length:Int)-1).toNat=l.length-1:=by omega
 have ht:=z75 hl (l.length-1)
 have b1:z9ub.pre [.sl .plain nl (l.length-1) (bys (dgs (l.take (l.length-1))))]=True:=z2hb (z9v hl _) (by simp;omega) (by simp) rfl
 have di:∀(ids:List Nat) (f:Nat→List z2a) (k:Int),z2za ids f (i64 k)=i64 k:=fun _ _ _=>rfl
 simp(maxSteps:=1000000) (disch:=first|omega|(simp;done)|(simp;omega)) [z9a,z1a,z0a,z0l,e1,hd,hat,hal,z8a,ht,h183,b1,di]
 refine⟨⟨by omega,by omega⟩,by omega,⟨by omega,by omega⟩,?_⟩
 refine z4a fun Q1 hQ1=> ?_
 have hm:z2p (l.take (l.length-1)):=z9v hl _
 have hml:(l.take (l.length-1)).length=l.length-1:=by simp
 have hmat:∀i,i<l.length-1→z8ga (l.take (l.length-1)) (l.length-1-1-i)=z8ga l (l.length-2-i):=fun i hi=>by
  simp only[z8ga,List.getD,List.getElem?_take]
  rw[if_pos (by omega),show l.length-1-1-i=l.length-2-i by omega]
 have hel:=fun i=>z0gb (nl:=nl) hm i
 rw[hml] at hel
 generalize hm0:l.take (l.length-1)=m at*
 refine z6sa [] [.ep [.sl .plain nl (l.length-1) (bys (dgs m))]] (by simp) (by simp) (by rw[hI184];rfl) (by rw[hI184];have:=z3Ob (nl:=nl) hm (by omega);rw[hml] at this;exact this) (by simp) l.length (fun i bx=>i≤l.length-1∧bx=[(2,some (bys (z9c 16))),(3,some (bys (z3Aa l i)))]) ⟨Nat.zero_le _,rfl⟩ (fun i bx h=>by omega) (fun i bx h he=> ?_) (fun i bx xs hi he=> ?_)
 ·rw[hI184,hel] at he
  obtain⟨hi,rfl⟩:=h
  split at he
  ·cases he
  ·have hii:i=l.length-1:=by omega
   subst hii
   have tl:=z9F hl hpos (l.length-1)
   have tk:=z0g tl
   rw[hQ1]
   simp(maxSteps:=1000000) (disch:=first|omega|(simp;done)|(simp;omega)) [z9a,z1a,z0a,z0ya,z8r,z4Ba,tl,z8a,←hQf,z0l,tk,z8wa]
 ·rw[hI184,hel] at he
  obtain⟨hi,rfl⟩:=hi
  split at he
  ·rename_i hlt
   have he':=(Option.some.inj he).symm
   subst he'
   have tl:=z9F hl hpos i
   refine⟨rfl,by simp,fun V=> ?_⟩
   have al:=z7I hl (show l.length-2-i<l.length by omega)
   rw[hmat i hlt]
   have tn:z3Aa l (i+1)=z4j 2 [z8ga l (l.length-2-i),z3Aa l i]:=rfl
   rw[tn]
   have dl:=z1h 2 [z8ga l (l.length-2-i),z3Aa l i]
   have o1:ofC.pre [i64 2,.sl .plain (some false) 2 [st (z8ga l (l.length-2-i)),st (z3Aa l i)]]=True:=eq_true ⟨2,some false,[z8ga l (l.length-2-i),z3Aa l i],by simp[z8ja,al,tl],rfl⟩
   have o2:ofC.post [i64 2,.sl .plain (some false) 2 [st (z8ga l (l.length-2-i)),st (z3Aa l i)]]= .agg (bys (z4j 2 [z8ga l (l.length-2-i),z3Aa l i])):=by
    show z2a.agg (bys (z4j 2 (gSs [st (z8ga l (l.length-2-i)),st (z3Aa l i)])))=_
    simp[gSs]
   generalize z4j 2 [z8ga l (l.length-2-i),z3Aa l i]=D at*
   simp(maxSteps:=1000000) (disch:=first|omega|(simp;done)|(simp;omega)) [z9a,z1a,z0a,z0ya,z8r,z4Ca,z3Ea,al,tl,dl,z8a,h8,o1,o2,z9Eb,z0Ea,z0g,z7F,z1I]
   omega
  ·cases he
end Go.Abs
end

section
namespace Go.Abs
set_option maxRecDepth 100000
set_option maxHeartbeats 8000000
def z9fb (n m:Nat) (w:Bool):Option Bool:=if m=n∧w=false then some false else none
def z0Kb (n m:Nat) (w:Bool) (q l:List (List UInt8)):z2a:=z2Fa (z9fb n m w) (prf n m w q l)
structure z7Pb (n m:Nat) (q l:List (List UInt8)):Prop where
 m1:1≤m
 mn:m+l.length=n
 nn:n≤62000
 q16:z2p q
 l16:z2p l
 qo:q.length=oN m
def z0Wb:z5a:=⟨fun ds=>∃(n m:Nat) (w:Bool) (nq nl:Option Bool) (q l:List (List UInt8)),z7Pb n m q l∧ds=[i64 (n:Int),i64 (m:Int),bo w,z5w nq q,z5w nl l],
 fun ds=>z0Kb (asI (nth ds 0)).toNat (asI (nth ds 1)).toNat (asB (nth ds 2)) (gDs (nth ds 3)) (gDs (nth ds 4))⟩
theorem z3wb {n m:Nat} {w:Bool} {nq nl:Option Bool} {q l:List (List UInt8)} (h:z7Pb n m q l):z0Wb.pre [i64 (n:Int),i64 (m:Int),bo w,z5w nq q,z5w nl l]=True:=eq_true ⟨n,m,w,nq,nl,q,l,h,rfl⟩
theorem z7Ra {n m:Nat} {w:Bool} {nq nl:Option Bool} {q l:List (List UInt8)} (h:z7Pb n m q l):z0Wb.post [i64 (n:Int),i64 (m:Int),bo w,z5w nq q,z5w nl l]=z0Kb n m w q l:=by
 show z0Kb ((n:Int)).toNat ((m:Int)).toNat w (gDs (.sl .plain nq q.length (bys (dgs q)))) (gDs (.sl .plain nl l.length (bys (dgs l))))=_
 rw[z8A h.q16,z8A h.l16,Int.toNat_natCast,Int.toNat_natCast]
theorem z3Xb (n m:Nat) (w:Bool) (q l:List (List UInt8)) (hq:z2p q) (ho:q.length=oN m) (h1:1≤m) (hn:m+l.length=n):z2p (prf n m w q l):=by
 have hp:0<q.length:=by rw[ho];exact z6wa h1
 by_cases he:m=n
 ·rw[z16a he]
  cases w
  ·exact z4g.2 ⟨z9F hq hp _,z8n⟩
  ·exact z8n
 ·have h2:2≤n:=by omega
  have hs:=z10 h2
  have hps:=z6Y n
  rw[z1Wa ⟨h2,he⟩]
  split
  ·rename_i hk
   exact z4Qa.2 ⟨z3Xb (spl n) m w q _ hq ho h1 (by rw[List.length_take];omega),z4g.2 ⟨z5ia _,z8n⟩⟩
  ·rename_i hk
   have hm:2^Nat.log2 (n-1)+(m-spl n)=m:=by change spl n+(m-spl n)=m;omega
   have hw:=z5Z h2
   have ho':oN m=oN (m-spl n)+1:=by
    have:=z3ob (k:=Nat.log2 (n-1)) (m:=m-spl n) (by change m-spl n<spl n;omega)
    rwa[hm] at this
   cases q with
   |nil=>simp at hp
   |cons a q'=>
    have h16:=z4g.1 hq
    exact z4Qa.2 ⟨z3Xb (n-spl n) (m-spl n) false q' l h16.2 (by simp at ho;omega) (by omega) (by omega),z4g.2 ⟨h16.1,z8n⟩⟩
termination_by n
decreasing_by
 all_goals omega
end Go.Abs
end

section
namespace Go.Abs
set_option maxRecDepth 100000
set_option maxHeartbeats 8000000
def z38c (ds:List z2a):Nat:=(asI (nth ds 0)).toNat
theorem z23c (E:Env) (N:Nat) (h370:E.G 370=z7mc) (h168:E.G 168=z5la) (h352:E.G 352=z9La z0Wb z38c N):∀ds,(z9La z0Wb z38c (N+1)).pre ds→ds.length=z5f.n∧awp E z5f.body (z0m z5f.res (z0Wb.post ds)) (z3b z5f.wr ds):=by
 rintro _ ⟨⟨n,m,w,nq,nl,q,l,h,rfl⟩,hN⟩
 rw[z7Ra h]
 have hm1:=h.m1
 have hmn:=h.mn
 have hnn:=h.nn
 have hqp:0<q.length:=by rw[h.qo];exact z6wa hm1
 have hdq:=z0q h.q16
 have hdl:=z0q h.l16
 unfold z5w
 by_cases he:m=n
 ·subst he
  have d1:decide ((m:Int)=(m:Int))=true:=decide_eq_true rfl
  cases w with
  |true=>
   have hr:z0Kb m m true q l= .sl (.own 16) none 0 []:=by rw[z0Kb,z16a rfl];simp[z2Fa,z9fb,dgs]
   rw[hr]
   simp(maxSteps:=1000000) (disch:=first|omega|(simp;done)|(simp;omega)) [z9a,z1a,z0a,z5f,kT,kF]
  |false=>
   have hr:z0Kb m m false q l= .sl (.own 16) (some false) 1 (bys (z8wa q)):=by rw[z0Kb,z16a rfl];simp[z2Fa,z9fb,dgs]
   have f1:z7mc.pre [.sl .plain nq q.length (bys (dgs q))]=True:=z1bd h.q16 (by have:=h.qo;have:=z5rb m;omega) hqp
   have f2:z7mc.post [.sl .plain nq q.length (bys (dgs q))]= .agg (bys (z8wa q)):=z1Nb h.q16
   have tl:(z8wa q).length=16:=z9F h.q16 hqp _
   rw[hr]
   simp(maxSteps:=1000000) (disch:=first|omega|(simp;done)|(simp;omega)) [z9a,z1a,z0a,z5f,z07,kT,kF,h370,f1,f2,tl,z8a]
 ·have d1:decide ((m:Int)=(n:Int))=false:=decide_eq_false (by omega)
  have d3:((m:Int)==(n:Int))=false:=beq_false_of_ne (by omega)
  have h2:2≤n:=by omega
  have hs:=z10 h2
  have hps:=z6Y n
  have hw:=z5Z h2
  generalize hQf:z0m z5f.res (z0Kb n m w q l)=Qf
  simp(maxSteps:=1000000) (disch:=first|omega|(simp;done)|(simp;omega)) [z9a,z1a,z0a,z5f,z07,z2wa,kT,kF,d1,d3]
  refine z4a fun Q1 hQ1=> ?_
  refine z4e (fun i:Nat=>⟨[(0,i64 n),(1,i64 m),(2,bo w),(3,.sl .plain nq q.length (bys (dgs q))),(4,.sl .plain nl l.length (bys (dgs l)))],[(11,i64 ((2^i:Nat):Int))],[]⟩) (fun i=>n-2^i) (fun i=>2^i<n) 0 (by simp) (by simp;omega) fun i hi=> ?_
  refine z4a fun Q2 hQ2=> ?_
  have hp2:2^(i+1)=2*2^i:=by rw[Nat.pow_succ];omega
  have hpos2:=Nat.two_pow_pos i
  by_cases c:2*2^i<n
  ·have dc:decide (2*((2^i:Nat):Int)<(n:Int))=true:=decide_eq_true (by omega)
   generalize hK:2^i=k at*
   simp(maxSteps:=1000000) (disch:=first|omega|(simp;done)|(simp;omega)) [z9a,z76,z87,kT,kF,dc,hQ2]
   exact⟨i+1,by rw[hp2];omega,by rw[hp2];omega,by have:=congrArg (fun x:Nat=>(x:Int)) hp2;simp at this;omega⟩
  ·have hk:spl n=2^i:=z5Bb hi (by omega)
   have dc:decide (2*((2^i:Nat):Int)<(n:Int))=false:=decide_eq_false (by omega)
   generalize hK:2^i=k at*
   simp(maxSteps:=1000000) (disch:=first|omega|(simp;done)|(simp;omega)) [z9a,z76,z87,kT,kF,dc,hQ2,hQ1]
   have hN':n<N+1:=hN
   rw[←hQf,z0Kb,z1Wa ⟨h2,he⟩,hk]
   by_cases hm:m≤k
   ·have dm:decide ((k:Int)<(m:Int))=false:=decide_eq_false (by omega)
    have hle:(l.take (k-m)).length=k-m:=by rw[List.length_take];omega
    have hld:(l.drop (k-m)).length=n-k:=by rw[List.length_drop];omega
    have ok1:z7Pb k m q (l.take (k-m)):=⟨hm1,by omega,by omega,h.q16,z9v h.l16 _,h.qo⟩
    have i1:((k:Int)-(m:Int)).toNat=k-m:=by omega
    have c1:((n:Int)-((n:Int)-(k:Int)))=(k:Int):=by omega
    have hp0:=z3wb (w:=w) (nq:=nq) (nl:=nl) ok1
    have hq0:=z7Ra (w:=w) (nq:=nq) (nl:=nl) ok1
    simp only[z5w,hle] at hp0 hq0
    have hp1:(z9La z0Wb z38c N).pre [i64 (k:Int),i64 (m:Int),bo w,.sl .plain nq q.length (bys (dgs q)),.sl .plain nl (k-m) (bys (dgs (l.take (k-m))))]=True:=eq_true ⟨of_eq_true hp0,by show k<N;omega⟩
    have hq1:(z9La z0Wb z38c N).post [i64 (k:Int),i64 (m:Int),bo w,.sl .plain nq q.length (bys (dgs q)),.sl .plain nl (k-m) (bys (dgs (l.take (k-m))))]=z0Kb k m w q (l.take (k-m)):=hq0
    have hl2:l.length-(k-m)=n-k:=by omega
    have r1:z5la.pre [.sl .plain nl (n-k) (bys (dgs (l.drop (k-m))))]=True:=z5Da (z2Da h.l16 _) (by omega) hld.symm rfl
    have r2:z5la.post [.sl .plain nl (n-k) (bys (dgs (l.drop (k-m))))]= .agg (bys (root (l.drop (k-m)))):=z2ca (z2Da h.l16 _) hld.symm rfl
    have rl:=z5ia (l.drop (k-m))
    have t1:=z75 h.l16 (k-m)
    have t2:=z7Qa h.l16 (k-m)
    have t3:List.take ((n-k)*16) (bys (dgs (l.drop (k-m))))=bys (dgs (l.drop (k-m))):=List.take_of_length_le (by simp only[bys,List.length_map];rw[z0q (z2Da h.l16 _),hld];exact Nat.le_refl _)
    have hnl:z9fb n m w=none:=by simp[z9fb,he]
    rw[if_pos hm,hnl]
    have hPl:=z6Ua k m w q (l.take (k-m)) hm1 hm
    generalize hP:prf k m w q (l.take (k-m))=P at*
    generalize hR:root (l.drop (k-m))=R at*
    rw[z0Kb,hP] at hq1
    simp(maxSteps:=1000000) (disch:=first|omega|(simp;done)|(simp;omega)) [z9a,z19,z1xa,kT,kF,dm,h352,i1,hdl,hp1,hq1,hl2,h168,r1,r2,rl,t1,t2,t3,z8a,z2Fa,←hQf,z5f,z1a]
    exact⟨⟨hm,by omega⟩,by omega,by omega⟩
   ·have dm:decide ((k:Int)<(m:Int))=true:=decide_eq_true (by omega)
    have ho':oN m=oN (m-k)+1:=by
     have:=z3ob (k:=Nat.log2 (n-1)) (m:=m-spl n) (by change m-spl n<spl n;omega)
     rw[show 2^Nat.log2 (n-1)+(m-spl n)=m by change spl n+(m-spl n)=m;omega,hk] at this
     exact this
    have htl:q.tail.length=q.length-1:=List.length_tail
    have ok2:z7Pb (n-k) (m-k) q.tail l:=⟨by omega,by omega,by omega,fun d hd=>h.q16 d (List.mem_of_mem_tail hd),h.l16,by rw[htl,h.qo];omega⟩
    have c1:((n-k:Nat):Int)=(n:Int)-(k:Int):=by omega
    have c2:((m-k:Nat):Int)=(m:Int)-(k:Int):=by omega
    have hp0:=z3wb (w:=false) (nq:=nq) (nl:=nl) ok2
    have hq0:=z7Ra (w:=false) (nq:=nq) (nl:=nl) ok2
    simp only[z5w,htl,c1,c2] at hp0 hq0
    have hp1:(z9La z0Wb z38c N).pre [i64 ((n:Int)-(k:Int)),i64 ((m:Int)-(k:Int)),bo false,.sl .plain nq (q.length-1) (bys (dgs q.tail)),.sl .plain nl l.length (bys (dgs l))]=True:=eq_true ⟨of_eq_true hp0,by show((n:Int)-(k:Int)).toNat<N;omega⟩
    have hq1:(z9La z0Wb z38c N).post [i64 ((n:Int)-(k:Int)),i64 ((m:Int)-(k:Int)),bo false,.sl .plain nq (q.length-1) (bys (dgs q.tail)),.sl .plain nl l.length (bys (dgs l))]=z0Kb (n-k) (m-k) false q.tail l:=hq0
    have hnl:z9fb n m w=none:=by simp[z9fb,he]
    obtain⟨a,q',rfl⟩:∃a q',q=a::q':=by
     cases q with
     |nil=>simp at hqp
     |cons a q'=>exact⟨a,q',rfl⟩
    simp only[List.length_cons,Nat.add_sub_cancel,List.tail_cons] at hp1 hq1
    have hal:=(z4g.1 h.q16).1
    have t1:List.take (q'.length*16) (dgs q')=dgs q':=List.take_of_length_le (by rw[z0q (z4g.1 h.q16).2];exact Nat.le_refl _)
    have t2:List.take 16 (dgs (a::q'))=a:=by rw[show dgs (a::q')=a++dgs q' by simp[dgs],List.take_left' hal]
    rw[if_neg hm,hnl,List.headD_cons,List.tail_cons]
    have hPl:=z6Ua (n-k) (m-k) false q' l (by omega) (by omega)
    generalize hP:prf (n-k) (m-k) false q' l=P at*
    rw[z0Kb,hP] at hq1
    simp(maxSteps:=1000000) (disch:=first|omega|(simp;done)|(simp;omega)) [z9a,z19,kT,kF,dm,h352,hdq,hp1,hq1,t1,t2,hal,z8a,z2Fa,←hQf,z5f,z1a]
    exact⟨by omega,by omega,by omega⟩
end Go.Abs
end

section
namespace Go.Abs
set_option maxRecDepth 100000
set_option maxHeartbeats 8000000
def z2Xa (l:z3M) (m:Int):List (List UInt8)×Nat:=if m<1∨m<l.size∨(l.len:Int)<m then([],11) else(prf l.len m.toNat true (z9C l.size l.roots (z4h (l.ents.take (m.toNat-l.size)))) (z4h (l.ents.drop (m.toNat-l.size))),0)
def z56c:z5a:=⟨fun ds=>∃(l:z3M) (m:Int),l.ok∧z1n m∧ds=[z9W none none l,i64 m],fun ds=> .tup [z5w none (z2Xa (z03a (nth ds 0)) (asI (nth ds 1))).1,i64 ((z2Xa (z03a (nth ds 0)) (asI (nth ds 1))).2:Int)]⟩
theorem z79b {l:z3M} {m:Int} (h:l.ok) (hm:z1n m):z56c.pre [z9W none none l,i64 m]=True:=eq_true ⟨l,m,h,hm,rfl⟩
theorem z7bb {l:z3M} (m:Int) (h:l.ok):z56c.post [z9W none none l,i64 m]= .tup [z5w none (z2Xa l m).1,i64 ((z2Xa l m).2:Int)]:=by
 show z2a.tup [z5w none (z2Xa (z03a (z9W none none l)) m).1,i64 ((z2Xa (z03a (z9W none none l)) m).2:Int)]=_
 rw[z0ob h]
theorem z6Q (l:List z3h):(z4h l).length=l.length:=List.length_map _
theorem z7Ad (E:Env) (h349:E.G 349=z0Qa) (h348:E.G 348=z9hc) (h350:E.G 350=z1dc) (h351:E.G 351=z0Mc) (h352:E.G 352=z0Wb):∀ds,z56c.pre ds→ds.length=z0o.n∧awp E z0o.body (z0m z0o.res (z56c.post ds)) (z3b z0o.wr ds):=by
 rintro _ ⟨l,m,h,hm,rfl⟩
 rw[z7bb m h]
 have hs:=h.s
 have hn:=h.n
 have hll:l.len=l.size+l.ents.length:=rfl
 have p3:z0Qa.pre [z9W none none l]=True:=z4Ga h
 have p4:z0Qa.post [z9W none none l]=i64 (l.len:Int):=z63 h
 have q1:=z0wb h hm
 have q2:=z9Qa m h
 by_cases c0:m<1
 ·rw[z2Xa,if_pos (.inl c0)]
  simp only[z9W,z5w,z5n] at p3 p4⊢
  have d1:decide (m<1)=true:=decide_eq_true c0
  simp(maxSteps:=1000000) (disch:=first|omega|(simp;done)|(simp;omega)) [z9a,z1a,z0a,z0o,kT,kF,d1]
  skip
 ·have d1:decide (m<1)=false:=decide_eq_false c0
  by_cases c:m<l.size∨(l.len:Int)<m
  ·rw[z53a,if_pos c] at q2
   rw[z2Xa,if_pos (by omega)]
   simp only[z9W,z5w,z5n,pkA] at p3 p4 q1 q2⊢
   simp(maxSteps:=1000000) (disch:=first|omega|(simp;done)|(simp;omega)) [z9a,z1a,z0a,z0o,z4R,kT,kF,d1,h348,q1,q2,z7F,z1I]
   skip
  ·rw[z53a,if_neg c] at q2
   rw[z2Xa,if_neg (by omega)]
   have i1:(m-(l.size:Int)).toNat=m.toNat-l.size:=by omega
   have hlen:=z3z h.e
   have hdr:=z2Vb h.e (m.toNat-l.size)
   have hld:(l.ents.drop (m.toNat-l.size)).length=l.ents.length-(m.toNat-l.size):=List.length_drop
   have hsd:z13a (l.ents.drop (m.toNat-l.size)):=fun x hx=>h.e x (List.mem_of_mem_drop hx)
   have hle:(l.ents.take (m.toNat-l.size)).length=m.toNat-l.size:=by rw[List.length_take];omega
   have k1:z1dc.pre [.sl .plain none (l.ents.length-(m.toNat-l.size)) (z6h (l.ents.drop (m.toNat-l.size)))]=True:=eq_true ⟨none,_,_,by rw[z3z hsd,hld],by simp,rfl⟩
   have k2:z1dc.post [.sl .plain none (l.ents.length-(m.toNat-l.size)) (z6h (l.ents.drop (m.toNat-l.size)))]= .fn 372 [] [.ep [.sl .plain none (l.ents.length-(m.toNat-l.size)) (z6h (l.ents.drop (m.toNat-l.size)))]]:=rfl
   have k3:z0Mc.pre [.fn 372 [] [.ep [.sl .plain none (l.ents.length-(m.toNat-l.size)) (z6h (l.ents.drop (m.toNat-l.size)))]]]=True:=eq_true ⟨none,_,hsd,by omega,by rw[z5n,hld]⟩
   have k4:z0Mc.post [.fn 372 [] [.ep [.sl .plain none (l.ents.length-(m.toNat-l.size)) (z6h (l.ents.drop (m.toNat-l.size)))]]]= .sl (.own 16) none (l.ents.length-(m.toNat-l.size)) (bys (dgs (z4h (l.ents.drop (m.toNat-l.size))))):=by
    have e:z2a.fn 372 [] [.ep [.sl .plain none (l.ents.length-(m.toNat-l.size)) (z6h (l.ents.drop (m.toNat-l.size)))]]= .fn 372 [] [.ep [z5n none (l.ents.drop (m.toNat-l.size))]]:=by rw[z5n,hld]
    show z2Fa none (z4h (gFe (.fn 372 [] [.ep [.sl .plain none (l.ents.length-(m.toNat-l.size)) (z6h (l.ents.drop (m.toNat-l.size)))]])))=_
    rw[e,z2Ib hsd,z2Fa,z6Q,hld]
   have htk:List.take ((l.ents.length-(m.toNat-l.size))*30) (z6h (l.ents.drop (m.toNat-l.size)))=z6h (l.ents.drop (m.toNat-l.size)):=List.take_of_length_le (by rw[z3z hsd,hld];exact Nat.le_refl _)
   have hA:z2p (z9C l.size l.roots (z4h (l.ents.take (m.toNat-l.size)))):=z1Ka h.r
   have hAl:(z9C l.size l.roots (z4h (l.ents.take (m.toNat-l.size)))).length=oN m.toNat:=by
    rw[z6U _ h.o,z6Q,hle];congr 1;omega
   have ok:z7Pb l.len m.toNat (z9C l.size l.roots (z4h (l.ents.take (m.toNat-l.size)))) (z4h (l.ents.drop (m.toNat-l.size))):=⟨by omega,by rw[z6Q,hld];omega,by omega,hA,z0Mb _,hAl⟩
   have em:((m.toNat:Nat):Int)=m:=by omega
   have f1:=z3wb (w:=true) (nq:=none) (nl:=none) ok
   have f2:=z7Ra (w:=true) (nq:=none) (nl:=none) ok
   have ta:∀(bx:Nat→List z2a) (cs:List z2a),z7A bx (.ep cs)= .ep cs:=fun _ _=>rfl
   have oa:z9A [] (fun _=>none) (.fn 372 [] [.ep [.sl .plain none (l.ents.length-(m.toNat-l.size)) (z6h (l.ents.drop (m.toNat-l.size)))]])=True:=eq_true ⟨by simp,by simp[z1u]⟩
   have hnl:z9fb l.len m.toNat true=none:=by simp[z9fb]
   rw[z0Kb,hnl] at f2
   simp only[z9W,z5w,z5n,pkA,z6Q,hld,em] at p3 p4 q1 q2 f1 f2⊢
   generalize z9C l.size l.roots (z4h (l.ents.take (m.toNat-l.size)))=A at*
   generalize z4h (l.ents.drop (m.toNat-l.size))=B at*
   have hPl:=z6Ua l.len m.toNat true A B (by omega) (by omega)
   generalize prf l.len m.toNat true A B=P at*
   simp(maxSteps:=1000000) (disch:=first|omega|(simp;done)|(simp;omega)) [z9a,z1a,z0a,z0o,z4R,z5ja,kT,kF,d1,h348,h349,h350,h351,h352,p3,p4,q1,q2,k1,k2,k3,k4,f1,f2,i1,hlen,hdr,htk,z7F,z1I,z2Fa,ta,oa]
   exact⟨by omega,by omega⟩
end Go.Abs
end

section
namespace Go.Abs
theorem z3hb:∀(k n m:Nat) (w:Bool) (q l:List (List UInt8)),1≤m→m≤n→n≤2^k→(prf n m w q l).length≤k+1
 |k,n,m,w,q,l,h1,h2,h3=>by
  by_cases he:m=n
  ·rw[z16a he];cases w<;>simp
  ·have h2':2≤n:=by omega
   have hs:=z10 h2'
   have hw:=z5Z h2'
   cases k with
   |zero=>simp at h3;omega
   |succ k=>
    have hk:spl n≤2^k:=by
     by_cases hc:spl n≤2^k
     ·exact hc
     ·exfalso
      have e:spl n=2^Nat.log2 (n-1):=rfl
      rw[e] at hc hs
      have:=(Nat.pow_lt_pow_iff_right (a:=2) (by decide)).1 (Nat.lt_of_not_le hc)
      have h4:2^(k+1)≤2^Nat.log2 (n-1):=Nat.pow_le_pow_right (by decide) this
      omega
    rw[z1Wa ⟨h2',he⟩]
    split
    ·have:=z3hb k (spl n) m w q (l.take (spl n-m)) h1 (by omega) hk
     rw[List.length_append,List.length_singleton];omega
    ·have:=z3hb k (n-spl n) (m-spl n) false q.tail l (by omega) (by omega) (by rw[Nat.pow_succ] at h3;omega)
     rw[List.length_append,List.length_singleton];omega
theorem z4Jb {n:Int} {q:List (List UInt8)} (h0:1≤n) (h1:n≤4294967296) (hq:q.length=oN n.toNat):z4kb n q=(z8wa q,0):=by
 have ho:okP n q.length=true:=by simp[okP,hq];omega
 rw[z4kb,if_pos ho,if_neg (by omega)];rfl
def z7ub (l:z3M) (m:Int):List (List UInt8):=z9C l.size l.roots (z4h (l.ents.take (m.toNat-l.size)))
def z2gd (l:z3M) (m:Int):List (List UInt8):=z4h (l.ents.drop (m.toNat-l.size))
theorem z2Jc {l:z3M} (h:l.ok) (m:Int):z2p (z7ub l m):=z1Ka h.r
theorem z0Ab {l:z3M} (h:l.ok) {m:Int} (h2:(l.size:Int)≤m) (h3:m≤(l.len:Int)):(z7ub l m).length=oN m.toNat:=by
 have hll:l.len=l.size+l.ents.length:=rfl
 have hle:(l.ents.take (m.toNat-l.size)).length=m.toNat-l.size:=by rw[List.length_take];omega
 rw[z7ub,z6U _ h.o,z6Q,hle];congr 1;omega
theorem z8uc {l:z3M} {m:Int} (h2:(l.size:Int)≤m) (h3:m≤(l.len:Int)):z9C m.toNat (z7ub l m) (z2gd l m)=z9C l.size l.roots (z4h l.ents):=by
 have hll:l.len=l.size+l.ents.length:=rfl
 have hle:(z4h (l.ents.take (m.toNat-l.size))).length=m.toNat-l.size:=by rw[z6Q,List.length_take];omega
 have e:=z1sa (z4h (l.ents.take (m.toNat-l.size))) (z4h (l.ents.drop (m.toNat-l.size))) l.size l.roots
 rw[hle,show l.size+(m.toNat-l.size)=m.toNat by omega] at e
 rw[z7ub,z2gd,←e,z4h,z4h,z4h,←List.map_append,List.take_append_drop]
theorem z84b {l:z3M} (h:l.ok):(z9C l.size l.roots (z4h l.ents)).length=oN l.len:=by rw[z6U _ h.o,z6Q];rfl
theorem z6ab {l:z3M} (h:l.ok) (h1:1≤l.len):z1ob l=z8wa (z9C l.size l.roots (z4h l.ents)):=by
 have hs:=h.s
 have hll:l.len=l.size+l.ents.length:=rfl
 rw[z1ob,z4Jb (by omega) (by omega) (by rw[z84b h,Int.toNat_natCast])]
theorem z6Cc {l:z3M} (h:l.ok):(z1ob l).length=16:=by
 have hs:=h.s
 have hll:l.len=l.size+l.ents.length:=rfl
 have hl:=z84b h
 by_cases h1:1≤l.len
 ·rw[z6ab h h1];exact z9F (z1Ka h.r) (by rw[hl];exact z6wa h1) _
 ·have h0:l.len=0:=by omega
  rw[z1ob,z4kb,if_pos (by simp[okP,hl];omega),if_pos (by rw[h0];rfl)]
  exact z5ia []
theorem z1xb {l:z3M} {m:Int} (h1:1≤m) (h2:(l.size:Int)≤m) (h3:m≤(l.len:Int)):z2Xa l m=(prf l.len m.toNat true (z7ub l m) (z2gd l m),0):=by
 rw[z2Xa,if_neg (by omega)];rfl
theorem z5Pc {l:z3M} {m:Int} (h2:(l.size:Int)≤m) (h3:m≤(l.len:Int)):z53a l m=((m,z7ub l m),0):=by
 rw[z53a,if_neg (by omega)];rfl
theorem z1gc {l:z3M} (m:Int) (h2:(l.size:Int)≤m) (h3:m≤(l.len:Int)):m.toNat+(z2gd l m).length=l.len:=by
 have hll:l.len=l.size+l.ents.length:=rfl
 rw[z2gd,z6Q,List.length_drop];omega
theorem z3Fc {l:z3M} (h:l.ok) (m:Int):z2p (z2Xa l m).1:=by
 unfold z2Xa
 split
 ·exact z8n
 ·rename_i hc
  exact z3Xb _ _ _ _ _ (z2Jc h m) (z0Ab h (by omega) (by omega)) (by omega) (z1gc m (by omega) (by omega))
theorem z97b {l:z3M} (h:l.ok) (m:Int):(z2Xa l m).1.length≤17:=by
 have hs:=h.s
 have hll:l.len=l.size+l.ents.length:=rfl
 unfold z2Xa
 split
 ·exact Nat.zero_le _
 ·rename_i hc
  exact z3hb 16 _ _ _ _ _ (by omega) (by omega) (by omega)
theorem z4Cc {l:z3M} (h:l.ok) {m:Int} (h1:1≤m) (h2:(l.size:Int)≤m) (h3:m≤(l.len:Int)):vpN (z8wa (z7ub l m)) (z1ob l) m (l.len:Int) (z2Xa l m).1=true:=by
 rw[z1xb h1 h2 h3]
 have em:((m.toNat:Nat):Int)=m:=by omega
 have:=z6pd (n:=l.len) (m:=m.toNat) (q:=z7ub l m) (l:=z2gd l m) (by omega) (z1gc m h2 h3) (z0Ab h h2 h3) (z1ob l)
 rw[em,z8uc h2 h3,z6ab h (by omega),decide_eq_true rfl] at this
 rw[z6ab h (by omega)]
 exact this
def z8qb (l:z3M) (x:z3h):z3M:=⟨l.size,l.roots,l.ents++[x]⟩
theorem z93b (l:z3M) (x:z3h):(z8qb l x).len=l.len+1:=by simp[z3M.len,z8qb];omega
theorem z7Dc {l:z3M} {x:z3h} (h:l.ok) (hx:x.small) (h1:l.ents.length<1000) (h2:l.len<62000):(z8qb l x).ok:=by
 have hll:l.len=l.size+l.ents.length:=rfl
 refine⟨h.r,h.o,fun y hy=> ?_,by simp[z8qb];omega,by simp[z8qb];omega⟩
 rcases List.mem_append.1 hy with hy|hy
 ·exact h.e y hy
 ·rw[List.mem_singleton.1 hy];exact hx
theorem z3Oc (l:z3M) (x:z3h):z7ub (z8qb l x) (l.len:Int)=z9C l.size l.roots (z4h l.ents):=by
 have hll:l.len=l.size+l.ents.length:=rfl
 rw[z7ub,Int.toNat_natCast,show l.len-(z8qb l x).size=l.ents.length by simp[z8qb];omega,show(z8qb l x).ents=l.ents++[x] from rfl,List.take_left];rfl
theorem z4Kd {l:z3M} {x:z3h} (h:l.ok) (hx:x.small) (h1:l.ents.length<1000) (h2:l.len<62000) (h0:1≤l.len):vpN (z1ob l) (z1ob (z8qb l x)) (l.len:Int) ((z8qb l x).len:Int) (z2Xa (z8qb l x) (l.len:Int)).1=true:=by
 have hll:l.len=l.size+l.ents.length:=rfl
 have:=z4Cc (z7Dc h hx h1 h2) (m:=(l.len:Int)) (by omega) (by simp only[z8qb];omega) (by rw[z93b];omega)
 rw[z3Oc,←z6ab h h0] at this
 exact this
theorem z41b (l:z3M) (x:z3h):(∃e:Nat,1≤e∧e≤20∧z6qb l x=(⟨0,[],[]⟩,e))∨z6qb l x=(z8qb l x,0):=by
 unfold z6qb
 split
 ·exact .inl ⟨1,by omega,by omega,rfl⟩
 ·split
  ·exact .inl ⟨20,by omega,by omega,rfl⟩
  ·exact .inr rfl
end Go.Abs
end
