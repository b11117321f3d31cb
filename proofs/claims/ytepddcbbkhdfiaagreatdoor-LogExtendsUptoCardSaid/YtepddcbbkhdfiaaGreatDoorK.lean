/- Lemmas: an abstract interpreter, and what the functions compute. -/
import Derived.Test.YtepddcbbkhdfiaaGreatDoorJ
import Derived.Test.YtepddcbbkhdfiaaGreatDoorI
import Derived.Test.YtepddcbbkhdfiaaGreatDoorH
import Derived.Test.YtepddcbbkhdfiaaGreatDoorG
set_option linter.unusedSimpArgs false
set_option linter.unusedVariables false
set_option linter.unusedSectionVars false
section
namespace Go.Abs
end Go.Abs
end

section
namespace Go.Abs
@[simp] theorem z2Rd (c:Cmd) (nl:Option Bool):(z0W c nl).length=8:=rfl
@[simp] theorem z5Nd (c:Cmd) (nl:Option Bool):(∀x∈z0W c nl,z0d x)↔True:=by simp[z0W]
@[simp] theorem z4Sd (c:Cmd) (nl:Option Bool):(∀x∈z0W c nl,z5e x=false)↔True:=by simp[z0W]
@[simp] theorem z0Fd (c:Cmd) (nl:Option Bool):(z0W c nl).take 8=z0W c nl:=rfl
@[simp] theorem z3Md (c:Cmd) (nl:Option Bool):z3f (z0W c nl)=true:=by simp[z0W,z3f]
end Go.Abs
end

section
namespace Go.Abs
def msgD (d:List UInt8):List Nat:=d.flatMap fun b=>[b.toNat/16,b.toNat% 16]
def sumD (d:List UInt8):Nat:=(d.map fun b=>(15-b.toNat/16)+(15-b.toNat% 16)).sum
def chkD (s:Nat):List Nat:=[s/256,s/16% 16,s% 16]
def dgt (d:List UInt8):List Nat:=msgD d++chkD (sumD d)
def z2de (kb:List UInt8) (f:Nat):Nat→List UInt8→List UInt8
 |0,v=>v
 |n+1,v=>z4j 4 [kb,z4J ((f+n:Nat):Int),z2de kb f n v]
theorem z0zc {v:List UInt8} (h:v.length=16) (kb:List UInt8) (f:Nat):∀n,(z2de kb f n v).length=16
 |0=>h
 |_+1=>z1h _ _
def z0Uc (c f t:Int):Prop:=0≤c∧c≤34∧0≤f∧f≤15∧0≤t∧t≤15
instance (c f t:Int):Decidable (z0Uc c f t):=by unfold z0Uc;exact inferInstance
def adv (c f t:Int) (v:List UInt8):List UInt8:=if z0Uc c f t then z2de (z4J c) f.toNat (t.toNat-f.toNat) v else z9c 16
theorem z6ac {v:List UInt8} (h:v.length=16) (c f t:Int):(adv c f t v).length=16:=by
 unfold adv
 split
 ·exact z0zc h _ _ _
 ·rfl
def z4vd:List UInt8:=[99,104,97,105,110]
def z5Xd (seed:List UInt8) (k:Nat):List UInt8:=(drv seed z4vd [z4J (k:Int)]).take 16
theorem z19a (s:List UInt8) (k:Nat):(z5Xd s k).length=16:=by simp[z5Xd]

/-! ### One value of each chain -/
def z5jd (f:Nat→List UInt8):Nat→List UInt8
 |0=>[]
 |n+1=>z5jd f n++f n
theorem z1ab {f:Nat→List UInt8}:∀n,(∀k,k<n→(f k).length=16)→(z5jd f n).length=16*n
 |0,_=>rfl
 |n+1,h=>by
  rw[z5jd,List.length_append,z1ab n fun k hk=>h k (by omega),h n (by omega)];omega
def dgI (d:List UInt8):List Int:=(dgt d).map Int.ofNat
def pubV (s:List UInt8) (k:Nat):List UInt8:=adv k 0 15 (z5Xd s k)
def sigV (s:List UInt8) (hs:List Int) (k:Nat):List UInt8:=adv k 0 (atI hs k) (z5Xd s k)
def endV (hs:List Int) (s:List UInt8) (k:Nat):List UInt8:=adv k (atI hs k) 15 ((s.drop (16*k)).take 16)
def pubS (s:List UInt8):List UInt8:=z5jd (pubV s) 35
def sigS (s d:List UInt8):List UInt8:=z5jd (sigV s (dgI d)) 35
def endS (d s:List UInt8):List UInt8:=z5jd (endV (dgI d) s) 35
theorem z7Nb (s:List UInt8) (k:Nat):(pubV s k).length=16:=z6ac (z19a _ _) _ _ _
theorem z7Gb (s:List UInt8) (hs:List Int) (k:Nat):(sigV s hs k).length=16:=z6ac (z19a _ _) _ _ _
theorem z6kc (s:List UInt8):(pubS s).length=560:=z1ab 35 fun k _=>z7Nb s k
theorem z4zc (s d:List UInt8):(sigS s d).length=560:=z1ab 35 fun k _=>z7Gb s _ k
def recD (d s:List UInt8):List UInt8:=if s.length=560 then z4j 5 [endS d s] else z9c 16
def pubD (s:List UInt8):List UInt8:=z4j 5 [pubS s]
theorem z1oc (d s:List UInt8):(recD d s).length=16:=by
 unfold recD
 split
 ·exact z1h _ _
 ·rfl
theorem z4oc (s:List UInt8):(pubD s).length=16:=z1h _ _
end Go.Abs
end

section
namespace Go.Abs
attribute [simp] z7Nb z7Gb z6kc z4zc z1oc z4oc z19a
theorem z0g {l:List UInt8} (h:l.length=16):l.take 16=l:=by rw[←h,List.take_length]
theorem tot1 (a:List UInt8):z8ja [a]=a.length+9:=by simp[z8ja]
@[simp] theorem z50d (tag:Int) (x:List UInt8) (nl:Option Bool):ofC.post [i64 tag,.sl .plain nl 1 [st x]]= .agg (bys (z4j tag [x])):=z3Wc tag nl 1 [x]
@[simp] theorem z6Hd (tag:Int) (x:List UInt8) (nl:Option Bool):z0vb.post [i64 tag,.sl .plain nl 1 [st x]]= .agg (bys (z4j tag [x])):=z1Hb tag nl 1 [x]
end Go.Abs
end

section
namespace Go.Abs
theorem z9Id {c:Cmd} (h:c.ok):∀x∈six c,z1n x:=by
 obtain⟨h1,h2,h3,h4,h5,h6,_⟩:=h
 intro x hx
 simp only[six,List.mem_cons,List.not_mem_nil,or_false] at hx
 rcases hx with rfl|rfl|rfl|rfl|rfl|rfl<;>assumption
theorem z0Gb {c:Cmd} (h:c.small):(z7kb c).length≤2000000000:=by
 have h6:=z1l (z9Id h.1)
 have hl:=z1l (l:=c.list) h.1.2.2.2.2.2.2
 have e1:=z2s (n:=(c.data.length:Int)) (by have:=h.2.1;constructor<;>omega)
 have e2:=z2s (n:=(c.list.length:Int)) (by have:=h.2.2;constructor<;>omega)
 have:=h.2.1
 have:=h.2.2
 simp only[six,List.length_cons,List.length_nil] at h6
 simp only[z7kb,z5N,z4x,List.length_append]
 simp only[six]
 omega
set_option maxHeartbeats 8000000 in
theorem z7qc (E:Env) (h132:E.G 132=z1F):∀ds,z8aa.pre ds→ds.length=z4r.n∧awp E z4r.body (z0m z4r.res (z8aa.post ds)) (z3b z4r.wr ds):=by
 rintro _ ⟨c,d,nl,nl',hc,hd,rfl⟩
 rw[z9ea]
 obtain⟨k1,k2,k3,k4,k5,k6,dt,ls⟩:=c
 obtain⟨j1,j2,j3,j4,j5,j6,dt',ls'⟩:=d
 have hll:=hc.2.2
 simp only at hll
 simp(maxSteps:=1000000) (disch:=first|omega|(simp;done)|(simp;omega)) [z9a,z1a,z0a,z4r,z9da,z0W]
 refine z4a fun Q0 hQ0=> ?_
 simp only[z8Ua] at hQ0
 cases c1:k1==j1
 ·rw[c1] at hQ0
  simp(maxSteps:=1000000) (disch:=first|omega|(simp;done)|(simp;omega)) [z9a,z1a,z0a,z5h,c1,hQ0]
 rw[c1] at hQ0
 cases c2:k2==j2
 ·rw[c2] at hQ0
  simp(maxSteps:=1000000) (disch:=first|omega|(simp;done)|(simp;omega)) [z9a,z1a,z0a,z5h,c1,c2,hQ0]
 rw[c2] at hQ0
 cases c3:k3==j3
 ·rw[c3] at hQ0
  simp(maxSteps:=1000000) (disch:=first|omega|(simp;done)|(simp;omega)) [z9a,z1a,z0a,z5h,c1,c2,c3,hQ0]
 rw[c3] at hQ0
 cases c4:k4==j4
 ·rw[c4] at hQ0
  simp(maxSteps:=1000000) (disch:=first|omega|(simp;done)|(simp;omega)) [z9a,z1a,z0a,z5h,c1,c2,c3,c4,hQ0]
 rw[c4] at hQ0
 cases c5:k5==j5
 ·rw[c5] at hQ0
  simp(maxSteps:=1000000) (disch:=first|omega|(simp;done)|(simp;omega)) [z9a,z1a,z0a,z5h,c1,c2,c3,c4,c5,hQ0]
 rw[c5] at hQ0
 cases c6:k6==j6
 ·rw[c6] at hQ0
  simp(maxSteps:=1000000) (disch:=first|omega|(simp;done)|(simp;omega)) [z9a,z1a,z0a,z5h,c1,c2,c3,c4,c5,c6,hQ0]
 rw[c6] at hQ0
 cases c7:dt==dt'
 ·rw[c7] at hQ0
  have d7:(dt=dt')=False:=by simpa using c7
  simp(maxSteps:=1000000) (disch:=first|omega|(simp;done)|(simp;omega)) [z9a,z1a,z0a,z5h,c1,c2,c3,c4,c5,c6,d7,hQ0]
 rw[c7] at hQ0
 have d7:(dt=dt')=True:=by simpa using c7
 simp(maxSteps:=1000000) (disch:=first|omega|(simp;done)|(simp;omega)) [z9a,z1a,z0a,z5h,c1,c2,c3,c4,c5,c6,d7,h132,z8Ya,hQ0]
end Go.Abs
end

section
namespace Go.Abs
end Go.Abs
end

section
namespace Go.Abs
structure z2q where
 id:Int
 ty:Int
 uses:Int
 beg:Int
 fin:Int
 ver:Int
 par:Int
 raw:Bool
 dig:List UInt8
def z6B (m:z2q):List z2a:=[i64 m.id,i64 m.ty,i64 m.uses,i64 m.beg,i64 m.fin,i64 m.ver,i64 m.par,bo m.raw]++bys m.dig
structure z3h where
 time:Int
 kind:Int
 req:Int
 mode:Int
 cmd:Cmd
 dig:List UInt8
 made:List z2q
 gone:List Int
def z9n (l:List z2q):List z2a:=l.flatMap z6B
def z8j (nc nm ng:Option Bool) (x:z3h):List z2a:=[i64 x.time,i64 x.kind,i64 x.req,i64 x.mode]++z0W x.cmd nc++bys x.dig++[.sl .plain nm x.made.length (z9n x.made),.sl .plain ng x.gone.length (z9p x.gone)]
def z2q.ok (m:z2q):Prop:=z1n m.id∧z1n m.ty∧z1n m.uses∧z1n m.beg∧z1n m.fin∧z1n m.ver∧z1n m.par∧m.dig.length=16
def z3h.ok (x:z3h):Prop:=z1n x.time∧z1n x.kind∧z1n x.req∧z1n x.mode∧x.cmd.ok∧x.dig.length=16∧(∀m∈x.made,m.ok)∧∀n∈x.gone,z1n n
def z8de (b:Bool):Int:=if b then 1 else 0
def z9Ia (m:z2q):List Int:=[m.id,m.ty,m.uses,m.beg,m.fin,m.ver,m.par,z8de m.raw]
def z5hb (m:z2q):List UInt8:=z4x (z9Ia m)++m.dig
def z7Xa (x:z3h):List UInt8:=z4x [x.time,x.kind,x.req,x.mode]++(z5N (z7kb x.cmd)++(x.dig++(z4J x.made.length++(x.made.flatMap z5hb++z4x x.gone))))
theorem z0Pb {m:z2q} (h:m.ok):∀x∈z9Ia m,z1n x:=by
 obtain⟨h1,h2,h3,h4,h5,h6,h7,_⟩:=h
 intro x hx
 simp only[z9Ia,List.mem_cons,List.not_mem_nil,or_false] at hx
 rcases hx with rfl|rfl|rfl|rfl|rfl|rfl|rfl|rfl
 all_goals first|assumption|skip
 unfold z8de
 split<;>exact⟨by omega,by omega⟩
def z3h.small (x:z3h):Prop:=x.ok∧x.cmd.small∧x.made.length≤1000000∧x.gone.length≤1000000
end Go.Abs
end

section
namespace Go.Abs
instance :DecidableEq z2q:=fun a b=>decidable_of_iff (a.id=b.id∧a.ty=b.ty∧a.uses=b.uses∧a.beg=b.beg∧a.fin=b.fin∧a.ver=b.ver∧a.par=b.par∧a.raw=b.raw∧a.dig=b.dig) (by
 cases a;cases b;simp)
def inR (n lo hi:Int):Bool:=decide (lo≤n)&&decide (n≤hi)
def z3sb:Int:=2147483647
def z5Ab:Int:=1099511627776
def z9Vb (k:Int):Bool:=decide (k∈([2,4,5,6,8,10,15,19]:List Int))
def z9Hb (c:Cmd):Cmd:=if z9Vb c.kind=true then {c with data:=[]} else c
def z4Dd:List UInt8:=z9c 16
def z0mb (t m:Int):z3h:=⟨t,0,0,m,z4S,z4Dd,[],[]⟩
def z48 (x y:z3h):Bool:=x.time==y.time&&x.kind==y.kind&&x.req==y.req&&x.mode==y.mode&&decide (x.dig=y.dig)&&z8Ua x.cmd y.cmd&&decide (x.made=y.made)&&decide (x.gone=y.gone)
def z3ta (m:z2q):Bool:=inR m.id 1 z3sb&&inR m.ver 1 z3sb&&inR m.par 0 z3sb&&inR m.ty 0 31&&z0Ya m.uses&&inR m.beg 0 m.fin&&inR m.fin 0 z5Ab
def okE (x:z3h):Bool:=inR x.time 0 z5Ab&&inR x.req 0 z3sb&&inR x.mode 1 5&&decide (x.made.length≤4096)&&decide (x.gone.length≤4096)&&x.made.all z3ta&&
 (if x.kind=0 then z48 x (z0mb x.time x.mode) else inR x.kind 1 27&&(x.cmd.kind==x.kind)&&(!z9Vb x.kind||decide (x.cmd.data=[])))
def mad0:z2q:=⟨0,0,0,0,0,0,0,false,z4Dd⟩
end Go.Abs
end

section
namespace Go.Abs
/-! ### Lists of values of one width -/
def gLw {α:Type} (w:Nat) (g:List z2a→α) (n:Nat) (cs:List z2a):List α:=(List.range n).map fun i=>g ((cs.drop (i*w)).take w)
theorem z3ga {α:Type} {w:Nat} {enc:α→List z2a} {P:α→Prop} (h1:∀a,P a→(enc a).length=w):∀(l:List α) (i:Nat),(∀a∈l,P a)→(l.flatMap enc).drop (i*w)=(l.drop i).flatMap enc
 |[],i,_=>by simp
 |a::l,0,_=>by simp
 |a::l,i+1,h=>by
  rw[List.drop_succ_cons,←z3ga h1 l i (fun b hb=>h b (by simp[hb])),List.flatMap_cons,show(i+1)*w=(enc a).length+i*w by rw[h1 a (h a (by simp)),Nat.succ_mul,Nat.add_comm],←List.drop_drop,List.drop_left]
theorem z8Yb {α:Type} {w:Nat} {g:List z2a→α} {enc:α→List z2a} {P:α→Prop} (h1:∀a,P a→(enc a).length=w) (h2:∀a,P a→g (enc a)=a) (l:List α) (h:∀a∈l,P a):gLw w g l.length (l.flatMap enc)=l:=by
 apply List.ext_getElem
 ·simp[gLw]
 ·intro i a1 a2
  simp only[gLw,List.getElem_map,List.getElem_range]
  have hm:=h _ (List.getElem_mem a2)
  rw[z3ga h1 l i h,List.drop_eq_getElem_cons a2,List.flatMap_cons,←h1 _ hm,List.take_left,h2 _ hm]
def z89c (l:List z2a):z2q:=⟨asI (nth l 0),asI (nth l 1),asI (nth l 2),asI (nth l 3),asI (nth l 4),asI (nth l 5),asI (nth l 6),asB (nth l 7),gBs (l.drop 8)⟩
theorem z2Za (m:z2q):z89c (z6B m)=m:=by
 simp[z89c,z6B,nth]
theorem z0A {m:z2q} (h:m.dig.length=16):(z6B m).length=24:=by simp[z6B,h]
def z43a (n:Nat) (cs:List z2a):List z2q:=gLw 24 z89c n cs
def z5xb (m:z2q):Prop:=m.dig.length=16
theorem z6Ea {l:List z2q} (h:∀m∈l,z5xb m):z43a l.length (z9n l)=l:=z8Yb (enc:=z6B) (P:=z5xb) (fun a ha=>z0A ha) (fun a _=>z2Za a) l h
def gNn (d:z2a):Nat:=match d with| .sl _ _ n _=>n|_=>0
def z1ib (l:List z2a):z3h:=⟨asI (nth l 0),asI (nth l 1),asI (nth l 2),asI (nth l 3),z6Ub (l.drop 4),gBs ((l.drop 12).take 16),z43a (gNn (nth l 28)) (gCs (nth l 28)),gIs (gCs (nth l 29))⟩
theorem z8nb {nc nm ng:Option Bool} {x:z3h} (hd:x.dig.length=16) (hm:∀m∈x.made,z5xb m):z1ib (z8j nc nm ng x)=x:=by
 have e1:(z8j nc nm ng x).drop 4=z0W x.cmd nc++(bys x.dig++[.sl .plain nm x.made.length (z9n x.made),.sl .plain ng x.gone.length (z9p x.gone)]):=by simp[z8j]
 have e2:(z8j nc nm ng x).drop 12=bys x.dig++[.sl .plain nm x.made.length (z9n x.made),.sl .plain ng x.gone.length (z9p x.gone)]:=by
  rw[show 12=4+8 by rfl,←List.drop_drop,e1];rfl
 have e3:(z8j nc nm ng x).drop 28=[.sl .plain nm x.made.length (z9n x.made),.sl .plain ng x.gone.length (z9p x.gone)]:=by
  rw[show 28=12+16 by rfl,←List.drop_drop,e2,List.drop_left' (by simp[hd])]
 have e4:nth (z8j nc nm ng x) 28= .sl .plain nm x.made.length (z9n x.made):=by
  have:=congrArg (fun l=>nth l 0) e3
  simpa[nth] using this
 have e5:nth (z8j nc nm ng x) 29= .sl .plain ng x.gone.length (z9p x.gone):=by
  have:=congrArg (fun l=>nth l 1) e3
  simpa[nth] using this
 have e6:∀r,z6Ub (z0W x.cmd nc++r)=x.cmd:=fun r=>z5tb x.cmd nc
 rw[z1ib,e4,e5,e1,e2,e6,List.take_left' (by simp[hd])]
 simp only[gNn,gCs,z6Ea hm]
 simp[z8j,nth]
end Go.Abs
end

section
namespace Go.Abs
def z9T (l:List z2q):Prop:=∀m∈l,m.ok
theorem z4s {l:List z2q} (h:z9T l):∀m∈l,z5xb m:=fun m hm=>(h m hm).2.2.2.2.2.2.2
theorem z1aa {l:List z2q} (h:∀m∈l,z5xb m):(z9n l).length=l.length*24:=by
 induction l with
 |nil=>rfl
 |cons a l ih=>
  have:=ih fun m hm=>h m (by simp[hm])
  rw[z9n] at this⊢
  rw[List.flatMap_cons,List.length_append,this,z0A (h a (by simp)),List.length_cons];omega
theorem z4V {nc nm ng:Option Bool} {x:z3h} (h:x.dig.length=16):(z8j nc nm ng x).length=30:=by simp[z8j,z0W,h]
/-! ### Small parts -/
def z8Ec:z5a:=⟨fun ds=>∃n lo hi:Int,ds=[i64 n,i64 lo,i64 hi],fun ds=>bo (inR (asI (nth ds 0)) (asI (nth ds 1)) (asI (nth ds 2)))⟩
@[simp] theorem z57d (n lo hi:Int):z8Ec.pre [i64 n,i64 lo,i64 hi]=True:=eq_true ⟨n,lo,hi,rfl⟩
@[simp] theorem z5Ac (n lo hi:Int):z8Ec.post [i64 n,i64 lo,i64 hi]=bo (inR n lo hi):=rfl
def z5Zc:z5a:=⟨fun ds=>∃k:Int,ds=[i64 k],fun ds=>bo (z9Vb (asI (nth ds 0)))⟩
@[simp] theorem z9ee (k:Int):z5Zc.pre [i64 k]=True:=eq_true ⟨k,rfl⟩
@[simp] theorem z7nc (k:Int):z5Zc.post [i64 k]=bo (z9Vb k):=rfl
def z84d:z5a:=⟨fun ds=>∃(c:Cmd) (nl:Option Bool),c.small∧ds=[.agg (z0W c nl)],fun ds=> .agg (z0W (z9Hb (z6Ub (gCs (nth ds 0)))) none)⟩
def gNc (d:z2a):Option Bool:=match d with| .agg l=>(match nth l 7 with| .sl _ nl _ _=>nl|_=>none)|_=>none
def z2Db:z5a:=⟨z84d.pre,fun ds=> .agg (z0W (z9Hb (z6Ub (gCs (nth ds 0)))) (gNc (nth ds 0)))⟩
theorem z0sc {c:Cmd} {nl:Option Bool} (h:c.small):z2Db.pre [.agg (z0W c nl)]=True:=eq_true ⟨c,nl,h,rfl⟩
theorem z6tb (c:Cmd) (nl:Option Bool):z2Db.post [.agg (z0W c nl)]= .agg (z0W (z9Hb c) nl):=by
 show z2a.agg (z0W (z9Hb (z6Ub (z0W c nl))) (gNc (.agg (z0W c nl))))=_
 rw[z5tb];rfl
def z9Zc:z5a:=⟨fun ds=>∃t m:Int,ds=[i64 t,i64 m],fun ds=> .agg (z8j none none none (z0mb (asI (nth ds 0)) (asI (nth ds 1))))⟩
@[simp] theorem z1ae (t m:Int):z9Zc.pre [i64 t,i64 m]=True:=eq_true ⟨t,m,rfl⟩
@[simp] theorem z2uc (t m:Int):z9Zc.post [i64 t,i64 m]= .agg (z8j none none none (z0mb t m)):=rfl
/-! ### Entries -/
def z91b (ds:List z2a):Prop:=∃(nc nm ng:Option Bool) (x:z3h),x.small∧ds=[.agg (z8j nc nm ng x)]
theorem z5Cb {nc nm ng:Option Bool} {x:z3h} (h:x.small):z1ib (z8j nc nm ng x)=x:=z8nb h.1.2.2.2.2.2.1 (z4s h.1.2.2.2.2.2.2.1)
def z8ub:z5a:=⟨z91b,fun ds=>bo (okE (z1ib (gCs (nth ds 0))))⟩
theorem z75b {nc nm ng:Option Bool} {x:z3h} (h:x.small):z8ub.pre [.agg (z8j nc nm ng x)]=True:=eq_true ⟨nc,nm,ng,x,h,rfl⟩
theorem z0Sa {nc nm ng:Option Bool} {x:z3h} (h:x.small):z8ub.post [.agg (z8j nc nm ng x)]=bo (okE x):=by
 show bo (okE (z1ib (z8j nc nm ng x)))=_
 rw[z5Cb h]
def z9Db:z5a:=⟨z91b,fun ds=>st (z7Xa (z1ib (gCs (nth ds 0))))⟩
theorem z0jc {nc nm ng:Option Bool} {x:z3h} (h:x.small):z9Db.pre [.agg (z8j nc nm ng x)]=True:=eq_true ⟨nc,nm,ng,x,h,rfl⟩
theorem z9ob {nc nm ng:Option Bool} {x:z3h} (h:x.small):z9Db.post [.agg (z8j nc nm ng x)]=st (z7Xa x):=by
 show st (z7Xa (z1ib (z8j nc nm ng x)))=_
 rw[z5Cb h]
def z1Ma:z5a:=⟨z91b,fun ds=> .agg (bys (z4j 8 [z7Xa (z1ib (gCs (nth ds 0)))]))⟩
theorem z6Ac {nc nm ng:Option Bool} {x:z3h} (h:x.small):z1Ma.pre [.agg (z8j nc nm ng x)]=True:=eq_true ⟨nc,nm,ng,x,h,rfl⟩
theorem z3Ta {nc nm ng:Option Bool} {x:z3h} (h:x.small):z1Ma.post [.agg (z8j nc nm ng x)]= .agg (bys (z4j 8 [z7Xa x])):=by
 show z2a.agg (bys (z4j 8 [z7Xa (z1ib (z8j nc nm ng x))]))=_
 rw[z5Cb h]
def z5Db:z5a:=⟨fun ds=>∃(nc nm ng nc' nm' ng':Option Bool) (x y:z3h),x.small∧y.small∧ds=[.agg (z8j nc nm ng x),.agg (z8j nc' nm' ng' y)],fun ds=>bo (z48 (z1ib (gCs (nth ds 0))) (z1ib (gCs (nth ds 1))))⟩
theorem z9oc {nc nm ng nc' nm' ng':Option Bool} {x y:z3h} (h:x.small) (h':y.small):z5Db.pre [.agg (z8j nc nm ng x),.agg (z8j nc' nm' ng' y)]=True:=eq_true ⟨nc,nm,ng,nc',nm',ng',x,y,h,h',rfl⟩
theorem z9qb {nc nm ng nc' nm' ng':Option Bool} {x y:z3h} (h:x.small) (h':y.small):z5Db.post [.agg (z8j nc nm ng x),.agg (z8j nc' nm' ng' y)]=bo (z48 x y):=by
 show bo (z48 (z1ib (z8j nc nm ng x)) (z1ib (z8j nc' nm' ng' y)))=_
 rw[z5Cb h,z5Cb h']
/-! ### Views -/
end Go.Abs
end

section
namespace Go.Abs
def kM:List LK:=[.int .i64,.int .i64,.int .i64,.int .i64,.int .i64,.int .i64,.int .i64,.bool,.int .u8,.int .u8,.int .u8,.int .u8,.int .u8,.int .u8,.int .u8,.int .u8,.int .u8,.int .u8,.int .u8,.int .u8,.int .u8,.int .u8,.int .u8,.int .u8]
end Go.Abs
end
