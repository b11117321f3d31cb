/- Lemmas: an abstract interpreter, and what the functions compute. -/
import Derived.Test.YtepddcbbkhdfiaaGreatDoorJ
import Derived.Test.YtepddcbbkhdfiaaGreatDoorI
import Derived.Test.YtepddcbbkhdfiaaGreatDoorH
import Derived.Test.YtepddcbbkhdfiaaGreatDoorG
set_option linter.unusedSimpArgs false
set_option linter.unusedVariables false
set_option linter.unusedSectionVars false
section
namespace Go.Abs
end Go.Abs
end

section
namespace Go.Abs
@[simp] theorem z04d (c:Cmd) (nl:Option Bool):(z13a c nl).length=8:=rfl
@[simp] theorem z5Md (c:Cmd) (nl:Option Bool):(∀x∈z13a c nl,z8a x)↔True:=by simp[z13a]
@[simp] theorem z81d (c:Cmd) (nl:Option Bool):(∀x∈z13a c nl,z5b x=false)↔True:=by simp[z13a]
@[simp] theorem z5Id (c:Cmd) (nl:Option Bool):(z13a c nl).take 8=z13a c nl:=rfl
@[simp] theorem z6Jd (c:Cmd) (nl:Option Bool):z8b (z13a c nl)=true:=by simp[z13a,z8b]
end Go.Abs
end

section
namespace Go.Abs
def msgD (d:List UInt8):List Nat:=d.flatMap fun b=>[b.toNat/16,b.toNat% 16]
def sumD (d:List UInt8):Nat:=(d.map fun b=>(15-b.toNat/16)+(15-b.toNat% 16)).sum
def chkD (s:Nat):List Nat:=[s/256,s/16% 16,s% 16]
def dgt (d:List UInt8):List Nat:=msgD d++chkD (sumD d)
def z4na (kb:List UInt8) (f:Nat):Nat→List UInt8→List UInt8
 |0,v=>v
 |n+1,v=>z0f 4 [kb,z3r ((f+n:Nat):Int),z4na kb f n v]
theorem z9z {v:List UInt8} (h:v.length=16) (kb:List UInt8) (f:Nat):∀n,(z4na kb f n v).length=16
 |0=>h
 |_+1=>z0e _ _
def z5M (c f t:Int):Prop:=0≤c∧c≤34∧0≤f∧f≤15∧0≤t∧t≤15
instance (c f t:Int):Decidable (z5M c f t):=by unfold z5M;exact inferInstance
def adv (c f t:Int) (v:List UInt8):List UInt8:=if z5M c f t then z4na (z3r c) f.toNat (t.toNat-f.toNat) v else z5j 16
theorem z0s {v:List UInt8} (h:v.length=16) (c f t:Int):(adv c f t v).length=16:=by
 unfold adv
 split
 ·exact z9z h _ _ _
 ·rfl
def z9Y:List UInt8:=[99,104,97,105,110]
def z5ca (seed:List UInt8) (k:Nat):List UInt8:=(drv seed z9Y [z3r (k:Int)]).take 16
theorem z7k (s:List UInt8) (k:Nat):(z5ca s k).length=16:=by simp[z5ca]

/-! ### One value of each chain -/
def z4Q (f:Nat→List UInt8):Nat→List UInt8
 |0=>[]
 |n+1=>z4Q f n++f n
theorem z0l {f:Nat→List UInt8}:∀n,(∀k,k<n→(f k).length=16)→(z4Q f n).length=16*n
 |0,_=>rfl
 |n+1,h=>by
  rw[z4Q,List.length_append,z0l n fun k hk=>h k (by omega),h n (by omega)];omega
def dgI (d:List UInt8):List Int:=(dgt d).map Int.ofNat
def pubV (s:List UInt8) (k:Nat):List UInt8:=adv k 0 15 (z5ca s k)
def sigV (s:List UInt8) (hs:List Int) (k:Nat):List UInt8:=adv k 0 (atI hs k) (z5ca s k)
def endV (hs:List Int) (s:List UInt8) (k:Nat):List UInt8:=adv k (atI hs k) 15 ((s.drop (16*k)).take 16)
def pubS (s:List UInt8):List UInt8:=z4Q (pubV s) 35
def sigS (s d:List UInt8):List UInt8:=z4Q (sigV s (dgI d)) 35
def endS (d s:List UInt8):List UInt8:=z4Q (endV (dgI d) s) 35
theorem z3p (s:List UInt8) (k:Nat):(pubV s k).length=16:=z0s (z7k _ _) _ _ _
theorem z1q (s:List UInt8) (hs:List Int) (k:Nat):(sigV s hs k).length=16:=z0s (z7k _ _) _ _ _
theorem z2B (s:List UInt8):(pubS s).length=560:=z0l 35 fun k _=>z3p s k
theorem z4y (s d:List UInt8):(sigS s d).length=560:=z0l 35 fun k _=>z1q s _ k
def recD (d s:List UInt8):List UInt8:=if s.length=560 then z0f 5 [endS d s] else z5j 16
def pubD (s:List UInt8):List UInt8:=z0f 5 [pubS s]
theorem z1x (d s:List UInt8):(recD d s).length=16:=by
 unfold recD
 split
 ·exact z0e _ _
 ·rfl
theorem z1B (s:List UInt8):(pubD s).length=16:=z0e _ _
end Go.Abs
end

section
namespace Go.Abs
attribute [simp] z3p z1q z2B z4y z1x z1B z7k
theorem z8ya {l:List UInt8} (h:l.length=16):l.take 16=l:=by rw[←h,List.take_length]
theorem tot1 (a:List UInt8):z1qb [a]=a.length+9:=by simp[z1qb]
@[simp] theorem z57 (tag:Int) (x:List UInt8) (nl:Option Bool):ofC.post [i64 tag,.sl .plain nl 1 [st x]]= .agg (bys (z0f tag [x])):=z7I tag nl 1 [x]
@[simp] theorem z85 (tag:Int) (x:List UInt8) (nl:Option Bool):z22c.post [i64 tag,.sl .plain nl 1 [st x]]= .agg (bys (z0f tag [x])):=z0C tag nl 1 [x]
end Go.Abs
end

section
namespace Go.Abs
theorem z8Ld {c:Cmd} (h:c.ok):∀x∈six c,z2e x:=by
 obtain⟨h1,h2,h3,h4,h5,h6,_⟩:=h
 intro x hx
 simp only[six,List.mem_cons,List.not_mem_nil,or_false] at hx
 rcases hx with rfl|rfl|rfl|rfl|rfl|rfl<;>assumption
theorem z7sc {c:Cmd} (h:c.small):(z3ic c).length≤2000000000:=by
 have h6:=z1xa (z8Ld h.1)
 have hl:=z1xa (l:=c.list) h.1.2.2.2.2.2.2
 have e1:=z4Da (n:=(c.data.length:Int)) (by have:=h.2.1;constructor<;>omega)
 have e2:=z4Da (n:=(c.list.length:Int)) (by have:=h.2.2;constructor<;>omega)
 have:=h.2.1
 have:=h.2.2
 simp only[six,List.length_cons,List.length_nil] at h6
 simp only[z3ic,z2X,z5y,List.length_append]
 simp only[six]
 omega
set_option maxHeartbeats 8000000 in
theorem z23c (E:Env) (h132:E.G 132=z4Oa):∀ds,z4ab.pre ds→ds.length=z4Ca.n∧awp E z4Ca.body (z4xa z4Ca.res (z4ab.post ds)) (z4H z4Ca.wr ds):=by
 rintro _ ⟨c,d,nl,nl',hc,hd,rfl⟩
 rw[z53a]
 obtain⟨k1,k2,k3,k4,k5,k6,dt,ls⟩:=c
 obtain⟨j1,j2,j3,j4,j5,j6,dt',ls'⟩:=d
 have hll:=hc.2.2
 simp only at hll
 simp(maxSteps:=1000000) (disch:=first|omega|(simp;done)|(simp;omega)) [z6G,z8pa,z7pa,z4Ca,z2ib,z13a]
 refine z1g fun Q0 hQ0=> ?_
 simp only[z9Bb] at hQ0
 cases c1:k1==j1
 ·rw[c1] at hQ0
  simp(maxSteps:=1000000) (disch:=first|omega|(simp;done)|(simp;omega)) [z6G,z8pa,z7pa,z6ta,c1,hQ0]
 rw[c1] at hQ0
 cases c2:k2==j2
 ·rw[c2] at hQ0
  simp(maxSteps:=1000000) (disch:=first|omega|(simp;done)|(simp;omega)) [z6G,z8pa,z7pa,z6ta,c1,c2,hQ0]
 rw[c2] at hQ0
 cases c3:k3==j3
 ·rw[c3] at hQ0
  simp(maxSteps:=1000000) (disch:=first|omega|(simp;done)|(simp;omega)) [z6G,z8pa,z7pa,z6ta,c1,c2,c3,hQ0]
 rw[c3] at hQ0
 cases c4:k4==j4
 ·rw[c4] at hQ0
  simp(maxSteps:=1000000) (disch:=first|omega|(simp;done)|(simp;omega)) [z6G,z8pa,z7pa,z6ta,c1,c2,c3,c4,hQ0]
 rw[c4] at hQ0
 cases c5:k5==j5
 ·rw[c5] at hQ0
  simp(maxSteps:=1000000) (disch:=first|omega|(simp;done)|(simp;omega)) [z6G,z8pa,z7pa,z6ta,c1,c2,c3,c4,c5,hQ0]
 rw[c5] at hQ0
 cases c6:k6==j6
 ·rw[c6] at hQ0
  simp(maxSteps:=1000000) (disch:=first|omega|(simp;done)|(simp;omega)) [z6G,z8pa,z7pa,z6ta,c1,c2,c3,c4,c5,c6,hQ0]
 rw[c6] at hQ0
 cases c7:dt==dt'
 ·rw[c7] at hQ0
  have d7:(dt=dt')=False:=by simpa using c7
  simp(maxSteps:=1000000) (disch:=first|omega|(simp;done)|(simp;omega)) [z6G,z8pa,z7pa,z6ta,c1,c2,c3,c4,c5,c6,d7,hQ0]
 rw[c7] at hQ0
 have d7:(dt=dt')=True:=by simpa using c7
 simp(maxSteps:=1000000) (disch:=first|omega|(simp;done)|(simp;omega)) [z6G,z8pa,z7pa,z6ta,c1,c2,c3,c4,c5,c6,d7,h132,z7Vb,hQ0]
end Go.Abs
end

section
namespace Go.Abs
theorem z9Ic (c d:Cmd):z9Bb c d=true↔c=d:=by
 obtain⟨k1,k2,k3,k4,k5,k6,dt,ls⟩:=c
 obtain⟨j1,j2,j3,j4,j5,j6,dt',ls'⟩:=d
 simp[z9Bb,and_assoc]
end Go.Abs
end

section
namespace Go.Abs
structure z3P where
 id:Int
 ty:Int
 uses:Int
 beg:Int
 fin:Int
 ver:Int
 par:Int
 raw:Bool
 dig:List UInt8
def z7Ka (m:z3P):List z0a:=[i64 m.id,i64 m.ty,i64 m.uses,i64 m.beg,i64 m.fin,i64 m.ver,i64 m.par,bo m.raw]++bys m.dig
structure z2n where
 time:Int
 kind:Int
 req:Int
 mode:Int
 cmd:Cmd
 dig:List UInt8
 made:List z3P
 gone:List Int
def z5za (l:List z3P):List z0a:=l.flatMap z7Ka
def z0va (nc nm ng:Option Bool) (x:z2n):List z0a:=[i64 x.time,i64 x.kind,i64 x.req,i64 x.mode]++z13a x.cmd nc++bys x.dig++[.sl .plain nm x.made.length (z5za x.made),.sl .plain ng x.gone.length (z6Ba x.gone)]
def z3P.ok (m:z3P):Prop:=z2e m.id∧z2e m.ty∧z2e m.uses∧z2e m.beg∧z2e m.fin∧z2e m.ver∧z2e m.par∧m.dig.length=16
def z2n.ok (x:z2n):Prop:=z2e x.time∧z2e x.kind∧z2e x.req∧z2e x.mode∧x.cmd.ok∧x.dig.length=16∧(∀m∈x.made,m.ok)∧∀n∈x.gone,z2e n
def z3de (b:Bool):Int:=if b then 1 else 0
def z6ha (m:z3P):List Int:=[m.id,m.ty,m.uses,m.beg,m.fin,m.ver,m.par,z3de m.raw]
def z27b (m:z3P):List UInt8:=z5y (z6ha m)++m.dig
def z5Wb (x:z2n):List UInt8:=z5y [x.time,x.kind,x.req,x.mode]++(z2X (z3ic x.cmd)++(x.dig++(z3r x.made.length++(x.made.flatMap z27b++z5y x.gone))))
theorem z1zc {m:z3P} (h:m.ok):∀x∈z6ha m,z2e x:=by
 obtain⟨h1,h2,h3,h4,h5,h6,h7,_⟩:=h
 intro x hx
 simp only[z6ha,List.mem_cons,List.not_mem_nil,or_false] at hx
 rcases hx with rfl|rfl|rfl|rfl|rfl|rfl|rfl|rfl
 all_goals first|assumption|skip
 unfold z3de
 split<;>exact⟨by omega,by omega⟩
def z2n.small (x:z2n):Prop:=x.ok∧x.cmd.small∧x.made.length≤1000000∧x.gone.length≤1000000
end Go.Abs
end

section
namespace Go.Abs
instance :DecidableEq z3P:=fun a b=>decidable_of_iff (a.id=b.id∧a.ty=b.ty∧a.uses=b.uses∧a.beg=b.beg∧a.fin=b.fin∧a.ver=b.ver∧a.par=b.par∧a.raw=b.raw∧a.dig=b.dig) (by
 cases a;cases b;simp)
def inR (n lo hi:Int):Bool:=decide (lo≤n)&&decide (n≤hi)
def z8bc:Int:=2147483647
def z4rc:Int:=1099511627776
def z1Dc (k:Int):Bool:=decide (k∈([2,4,5,6,8,10,15,19]:List Int))
def z3xc (c:Cmd):Cmd:=if z1Dc c.kind=true then {c with data:=[]} else c
def z2Jd:List UInt8:=z5j 16
def z7cc (t m:Int):z2n:=⟨t,0,0,m,z8u,z2Jd,[],[]⟩
def z6La (x y:z2n):Bool:=x.time==y.time&&x.kind==y.kind&&x.req==y.req&&x.mode==y.mode&&decide (x.dig=y.dig)&&z9Bb x.cmd y.cmd&&decide (x.made=y.made)&&decide (x.gone=y.gone)
theorem z1Cb (x y:z2n):z6La x y=true↔x=y:=by
 obtain⟨a1,a2,a3,a4,a5,a6,a7,a8⟩:=x
 obtain⟨b1,b2,b3,b4,b5,b6,b7,b8⟩:=y
 simp only[z6La,Bool.and_eq_true,beq_iff_eq,decide_eq_true_eq,z9Ic,z2n.mk.injEq]
 constructor
 ·rintro⟨⟨⟨⟨⟨⟨⟨h1,h2⟩,h3⟩,h4⟩,h5⟩,h6⟩,h7⟩,h8⟩
  exact⟨h1,h2,h3,h4,h6,h5,h7,h8⟩
 ·rintro⟨h1,h2,h3,h4,h6,h5,h7,h8⟩
  exact⟨⟨⟨⟨⟨⟨⟨h1,h2⟩,h3⟩,h4⟩,h5⟩,h6⟩,h7⟩,h8⟩
def z8tb (m:z3P):Bool:=inR m.id 1 z8bc&&inR m.ver 1 z8bc&&inR m.par 0 z8bc&&inR m.ty 0 31&&z7Sb m.uses&&inR m.beg 0 m.fin&&inR m.fin 0 z4rc
def okE (x:z2n):Bool:=inR x.time 0 z4rc&&inR x.req 0 z8bc&&inR x.mode 1 5&&decide (x.made.length≤4096)&&decide (x.gone.length≤4096)&&x.made.all z8tb&&
 (if x.kind=0 then z6La x (z7cc x.time x.mode) else inR x.kind 1 27&&(x.cmd.kind==x.kind)&&(!z1Dc x.kind||decide (x.cmd.data=[])))
def mad0:z3P:=⟨0,0,0,0,0,0,0,false,z2Jd⟩
end Go.Abs
end

section
namespace Go.Abs
/-! ### Lists of values of one width -/
def gLw {α:Type} (w:Nat) (g:List z0a→α) (n:Nat) (cs:List z0a):List α:=(List.range n).map fun i=>g ((cs.drop (i*w)).take w)
theorem z7kb {α:Type} {w:Nat} {enc:α→List z0a} {P:α→Prop} (h1:∀a,P a→(enc a).length=w):∀(l:List α) (i:Nat),(∀a∈l,P a)→(l.flatMap enc).drop (i*w)=(l.drop i).flatMap enc
 |[],i,_=>by simp
 |a::l,0,_=>by simp
 |a::l,i+1,h=>by
  rw[List.drop_succ_cons,←z7kb h1 l i (fun b hb=>h b (by simp[hb])),List.flatMap_cons,show(i+1)*w=(enc a).length+i*w by rw[h1 a (h a (by simp)),Nat.succ_mul,Nat.add_comm],←List.drop_drop,List.drop_left]
theorem z9Uc {α:Type} {w:Nat} {g:List z0a→α} {enc:α→List z0a} {P:α→Prop} (h1:∀a,P a→(enc a).length=w) (h2:∀a,P a→g (enc a)=a) (l:List α) (h:∀a∈l,P a):gLw w g l.length (l.flatMap enc)=l:=by
 apply List.ext_getElem
 ·simp[gLw]
 ·intro i a1 a2
  simp only[gLw,List.getElem_map,List.getElem_range]
  have hm:=h _ (List.getElem_mem a2)
  rw[z7kb h1 l i h,List.drop_eq_getElem_cons a2,List.flatMap_cons,←h1 _ hm,List.take_left,h2 _ hm]
def z8Ed (l:List z0a):z3P:=⟨asI (nth l 0),asI (nth l 1),asI (nth l 2),asI (nth l 3),asI (nth l 4),asI (nth l 5),asI (nth l 6),asB (nth l 7),gBs (l.drop 8)⟩
theorem z9Sb (m:z3P):z8Ed (z7Ka m)=m:=by
 simp[z8Ed,z7Ka,nth]
theorem z0Ka {m:z3P} (h:m.dig.length=16):(z7Ka m).length=24:=by simp[z7Ka,h]
def z0Yb (n:Nat) (cs:List z0a):List z3P:=gLw 24 z8Ed n cs
def z2oc (m:z3P):Prop:=m.dig.length=16
theorem z9Cb {l:List z3P} (h:∀m∈l,z2oc m):z0Yb l.length (z5za l)=l:=z9Uc (enc:=z7Ka) (P:=z2oc) (fun a ha=>z0Ka ha) (fun a _=>z9Sb a) l h
def gNn (d:z0a):Nat:=match d with| .sl _ _ n _=>n|_=>0
def z68b (l:List z0a):z2n:=⟨asI (nth l 0),asI (nth l 1),asI (nth l 2),asI (nth l 3),z4Cc (l.drop 4),gBs ((l.drop 12).take 16),z0Yb (gNn (nth l 28)) (gCs (nth l 28)),gIs (gCs (nth l 29))⟩
theorem z8ac {nc nm ng:Option Bool} {x:z2n} (hd:x.dig.length=16) (hm:∀m∈x.made,z2oc m):z68b (z0va nc nm ng x)=x:=by
 have e1:(z0va nc nm ng x).drop 4=z13a x.cmd nc++(bys x.dig++[.sl .plain nm x.made.length (z5za x.made),.sl .plain ng x.gone.length (z6Ba x.gone)]):=by simp[z0va]
 have e2:(z0va nc nm ng x).drop 12=bys x.dig++[.sl .plain nm x.made.length (z5za x.made),.sl .plain ng x.gone.length (z6Ba x.gone)]:=by
  rw[show 12=4+8 by rfl,←List.drop_drop,e1];rfl
 have e3:(z0va nc nm ng x).drop 28=[.sl .plain nm x.made.length (z5za x.made),.sl .plain ng x.gone.length (z6Ba x.gone)]:=by
  rw[show 28=12+16 by rfl,←List.drop_drop,e2,List.drop_left' (by simp[hd])]
 have e4:nth (z0va nc nm ng x) 28= .sl .plain nm x.made.length (z5za x.made):=by
  have:=congrArg (fun l=>nth l 0) e3
  simpa[nth] using this
 have e5:nth (z0va nc nm ng x) 29= .sl .plain ng x.gone.length (z6Ba x.gone):=by
  have:=congrArg (fun l=>nth l 1) e3
  simpa[nth] using this
 have e6:∀r,z4Cc (z13a x.cmd nc++r)=x.cmd:=fun r=>z9fc x.cmd nc
 rw[z68b,e4,e5,e1,e2,e6,List.take_left' (by simp[hd])]
 simp only[gNn,gCs,z9Cb hm]
 simp[z0va,nth]
end Go.Abs
end

section
namespace Go.Abs
def z01a (l:List z3P):Prop:=∀m∈l,m.ok
theorem z0Ba {l:List z3P} (h:z01a l):∀m∈l,z2oc m:=fun m hm=>(h m hm).2.2.2.2.2.2.2
theorem z2Xa {l:List z3P} (h:∀m∈l,z2oc m):(z5za l).length=l.length*24:=by
 induction l with
 |nil=>rfl
 |cons a l ih=>
  have:=ih fun m hm=>h m (by simp[hm])
  rw[z5za] at this⊢
  rw[List.flatMap_cons,List.length_append,this,z0Ka (h a (by simp)),List.length_cons];omega
theorem z8Qa {nc nm ng:Option Bool} {x:z2n} (h:x.dig.length=16):(z0va nc nm ng x).length=30:=by simp[z0va,z13a,h]
/-! ### Small parts -/
def z0jd:z1f:=⟨fun ds=>∃n lo hi:Int,ds=[i64 n,i64 lo,i64 hi],fun ds=>bo (inR (asI (nth ds 0)) (asI (nth ds 1)) (asI (nth ds 2)))⟩
@[simp] theorem z39d (n lo hi:Int):z0jd.pre [i64 n,i64 lo,i64 hi]=True:=eq_true ⟨n,lo,hi,rfl⟩
@[simp] theorem z02c (n lo hi:Int):z0jd.post [i64 n,i64 lo,i64 hi]=bo (inR n lo hi):=rfl
def z0Bd:z1f:=⟨fun ds=>∃k:Int,ds=[i64 k],fun ds=>bo (z1Dc (asI (nth ds 0)))⟩
@[simp] theorem z09d (k:Int):z0Bd.pre [i64 k]=True:=eq_true ⟨k,rfl⟩
@[simp] theorem z61c (k:Int):z0Bd.post [i64 k]=bo (z1Dc k):=rfl
def z4ae:z1f:=⟨fun ds=>∃(c:Cmd) (nl:Option Bool),c.small∧ds=[.agg (z13a c nl)],fun ds=> .agg (z13a (z3xc (z4Cc (gCs (nth ds 0)))) none)⟩
def gNc (d:z0a):Option Bool:=match d with| .agg l=>(match nth l 7 with| .sl _ nl _ _=>nl|_=>none)|_=>none
def z1qc:z1f:=⟨z4ae.pre,fun ds=> .agg (z13a (z3xc (z4Cc (gCs (nth ds 0)))) (gNc (nth ds 0)))⟩
theorem z31c {c:Cmd} {nl:Option Bool} (h:c.small):z1qc.pre [.agg (z13a c nl)]=True:=eq_true ⟨c,nl,h,rfl⟩
theorem z2fc (c:Cmd) (nl:Option Bool):z1qc.post [.agg (z13a c nl)]= .agg (z13a (z3xc c) nl):=by
 show z0a.agg (z13a (z3xc (z4Cc (z13a c nl))) (gNc (.agg (z13a c nl))))=_
 rw[z9fc];rfl
def z7wd:z1f:=⟨fun ds=>∃t m:Int,ds=[i64 t,i64 m],fun ds=> .agg (z0va none none none (z7cc (asI (nth ds 0)) (asI (nth ds 1))))⟩
@[simp] theorem z4be (t m:Int):z7wd.pre [i64 t,i64 m]=True:=eq_true ⟨t,m,rfl⟩
@[simp] theorem z18c (t m:Int):z7wd.post [i64 t,i64 m]= .agg (z0va none none none (z7cc t m)):=rfl
/-! ### Entries -/
def z0Ic (ds:List z0a):Prop:=∃(nc nm ng:Option Bool) (x:z2n),x.small∧ds=[.agg (z0va nc nm ng x)]
theorem z8pc {nc nm ng:Option Bool} {x:z2n} (h:x.small):z68b (z0va nc nm ng x)=x:=z8ac h.1.2.2.2.2.2.1 (z0Ba h.1.2.2.2.2.2.2.1)
def z2kc:z1f:=⟨z0Ic,fun ds=>bo (okE (z68b (gCs (nth ds 0))))⟩
theorem z3Nc {nc nm ng:Option Bool} {x:z2n} (h:x.small):z2kc.pre [.agg (z0va nc nm ng x)]=True:=eq_true ⟨nc,nm,ng,x,h,rfl⟩
theorem z9Nb {nc nm ng:Option Bool} {x:z2n} (h:x.small):z2kc.post [.agg (z0va nc nm ng x)]=bo (okE x):=by
 show bo (okE (z68b (z0va nc nm ng x)))=_
 rw[z8pc h]
def z7kc:z1f:=⟨z0Ic,fun ds=>st (z5Wb (z68b (gCs (nth ds 0))))⟩
theorem z14c {nc nm ng:Option Bool} {x:z2n} (h:x.small):z7kc.pre [.agg (z0va nc nm ng x)]=True:=eq_true ⟨nc,nm,ng,x,h,rfl⟩
theorem z7ec {nc nm ng:Option Bool} {x:z2n} (h:x.small):z7kc.post [.agg (z0va nc nm ng x)]=st (z5Wb x):=by
 show st (z5Wb (z68b (z0va nc nm ng x)))=_
 rw[z8pc h]
def z3Gb:z1f:=⟨z0Ic,fun ds=> .agg (bys (z0f 8 [z5Wb (z68b (gCs (nth ds 0)))]))⟩
theorem z60c {nc nm ng:Option Bool} {x:z2n} (h:x.small):z3Gb.pre [.agg (z0va nc nm ng x)]=True:=eq_true ⟨nc,nm,ng,x,h,rfl⟩
theorem z9Qb {nc nm ng:Option Bool} {x:z2n} (h:x.small):z3Gb.post [.agg (z0va nc nm ng x)]= .agg (bys (z0f 8 [z5Wb x])):=by
 show z0a.agg (bys (z0f 8 [z5Wb (z68b (z0va nc nm ng x))]))=_
 rw[z8pc h]
def z1Mb:z1f:=⟨fun ds=>∃(nc nm ng nc' nm' ng':Option Bool) (x y:z2n),x.small∧y.small∧ds=[.agg (z0va nc nm ng x),.agg (z0va nc' nm' ng' y)],fun ds=>bo (z6La (z68b (gCs (nth ds 0))) (z68b (gCs (nth ds 1))))⟩
theorem z0yc {nc nm ng nc' nm' ng':Option Bool} {x y:z2n} (h:x.small) (h':y.small):z1Mb.pre [.agg (z0va nc nm ng x),.agg (z0va nc' nm' ng' y)]=True:=eq_true ⟨nc,nm,ng,nc',nm',ng',x,y,h,h',rfl⟩
theorem z4Db {nc nm ng nc' nm' ng':Option Bool} {x y:z2n} (h:x.small) (h':y.small):z1Mb.post [.agg (z0va nc nm ng x),.agg (z0va nc' nm' ng' y)]=bo (z6La x y):=by
 show bo (z6La (z68b (z0va nc nm ng x)) (z68b (z0va nc' nm' ng' y)))=_
 rw[z8pc h,z8pc h']
/-! ### Views -/
end Go.Abs
end

section
namespace Go.Abs
def kM:List LK:=[.int .i64,.int .i64,.int .i64,.int .i64,.int .i64,.int .i64,.int .i64,.bool,.int .u8,.int .u8,.int .u8,.int .u8,.int .u8,.int .u8,.int .u8,.int .u8,.int .u8,.int .u8,.int .u8,.int .u8,.int .u8,.int .u8,.int .u8,.int .u8]
end Go.Abs
end
