/- Lemmas: an abstract interpreter, and what the functions compute. -/
import Derived.Test.YtepddcbbkhdfiaaGreatDoorC
import Derived.OrdersIn
import Derived.OwnWalkIn
import Derived.RangeFuncNested
import Derived.RangeFuncLeaves
import Derived.Scope
import Derived.Lib.Builder
import Derived.Lib.UnsafeStr
set_option linter.unusedSimpArgs false
set_option linter.unusedVariables false
set_option linter.unusedSectionVars false
section
namespace Go.Abs

def z6a.W (o:z6a):List Nat:=o.dst.toList++o.op.wrS
def z6a.R (o:z6a):List Nat:=(match o.guard with|some (s,_)=>[s]|none=>[])++o.op.rdS

def z7j:z0a:= .lit undef
def z4G (v:z0a) (want:Bool):Bool:=match v with| .lit (.bool b)=>b==want|_=>false
def okG (v:z0a):Prop:=isB v∨v=z7j
def z9a (E:Env) (o:z6a) (st:ASt):ASt:=
 let e:=eff E st.get st.getB o.op
 let run:ASt:={st with env:=(o.dst.toList.map fun s=>(s,e.val))++e.sl++st.env,box:=e.bx++st.box}
 match o.guard with
 |none=>run
 |some (s,want)=>if z4G (st.get s) want=true then run else {st with env:=(o.dst.toList.map fun s=>(s,z7j))++st.env}

def okA (E:Env) (o:z6a) (st:ASt):Prop:=
 (∀s∈o.W,lk st.org s=none)∧
 match o.guard with
 |none=>okp E st.get st.getB o.op
 |some (s,want)=>okG (st.get s)∧(z4G (st.get s) want=true→okp E st.get st.getB o.op)

def z8I (E:Env):List z6a→ASt→ASt
 |[],st=>st
 |o::os,st=>z8I E os (z9a E o st)
def z5t (E:Env):List z6a→ASt→Prop
 |[],_=>True
 |o::os,st=>okA E o st∧z5t E os (z9a E o st)

structure z5m (st st':ASt):Prop where
 org:st.org=st'.org
 env:∀s,lk st.env s=lk st'.env s
 box:∀id,lk st.box id=lk st'.box id
theorem z5m.refl (st:ASt):z5m st st:=⟨rfl,fun _=>rfl,fun _=>rfl⟩
theorem z5m.trans {a b c:ASt} (h:z5m a b) (k:z5m b c):z5m a c:=⟨h.org.trans k.org,fun s=>(h.env s).trans (k.env s),fun s=>(h.box s).trans (k.box s)⟩
theorem z5m.symm {a b:ASt} (h:z5m a b):z5m b a:=⟨h.org.symm,fun s=>(h.env s).symm,fun s=>(h.box s).symm⟩
theorem z5m.get {a b:ASt} (h:z5m a b):a.get=b.get:=funext fun s=>by simp only[ASt.get,h.env,h.org]
theorem z5m.getB {a b:ASt} (h:z5m a b):a.getB=b.getB:=funext fun s=>by simp only[ASt.getB,h.box]

theorem z8jc {E:Env} (o:z6a) {a b:ASt} (h:z5m a b):z5m (z9a E o a) (z9a E o b):=by
 have hg:=h.get
 have hb:=h.getB
 have key:∀(l:List (Nat×z0a)) (m:List (Nat×Option (List z0a))),z5m {a with env:=l++a.env,box:=m++a.box} {b with env:=l++b.env,box:=m++b.box}:=fun l m=>
  ⟨h.org,fun s=>by simp only[z4d,h.env],fun s=>by simp only[z4d,h.box]⟩
 unfold z9a
 rw[hg,hb]
 cases o.guard with
 |none=>exact key _ _
 |some sw=>
  obtain⟨s,want⟩:=sw
  simp only
  split
  ·exact key _ _
  ·exact key _ []
theorem z6Md {E:Env} (o:z6a) {a b:ASt} (h:z5m a b) (hok:okA E o a):okA E o b:=by
 have hg:=h.get
 have hb:=h.getB
 unfold okA at*
 rw[←hg,←hb,←h.org]
 exact hok
theorem z3Ec {E:Env}:∀(os:List z6a) {a b:ASt},z5m a b→z5m (z8I E os a) (z8I E os b)
 |[],_,_,h=>h
 |o::os,_,_,h=>z3Ec os (z8jc o h)
theorem z47b {E:Env}:∀(os:List z6a) {a b:ASt},z5m a b→z5t E os a→z5t E os b
 |[],_,_,_,_=>trivial
 |o::os,_,_,h,hk=>⟨z6Md o h hk.1,z47b os (z8jc o h) hk.2⟩

/-! ### What a step writes -/
theorem z5l (E:Env) (get:Nat→z0a) (getB:Nat→Option (List z0a)) (x:AOp):(∀p∈(eff E get getB x).sl,p.1∈x.wrS)∧(∀p∈(eff E get getB x).bx,p.1∈x.wrB):=by
 cases x
 case mv take y=>cases take<;>cases y<;>simp[eff,AOp.wrS]
 case load k b take y=>
  cases k<;>cases take<;>cases b<;>simp only[eff]<;>(try split)<;>simp[AOp.wrB]<;>(intros;simp_all)
 case store k b take p v=>cases k<;>cases take<;>cases v<;>simp[eff,AOp.wrS,AOp.wrB]
 case box id k take y=>cases k<;>cases take<;>cases y<;>simp[eff,AOp.wrS,AOp.wrB]
 case copy=>simp only[eff];split<;>simp[AOp.wrB]
 case buildO=>simp only[eff];split<;>simp[AOp.wrS]
 case storeO=>simp only[eff];split<;>simp[AOp.wrS,AOp.wrB]
 case appendB=>simp only[eff];split<;>simp[AOp.wrB]
 case clearB=>simp only[eff];split<;>simp[AOp.wrB]
 case slCap=>simp only[eff];split<;>simp
 case bld k _ _ _ _=>simp only[eff,z8j];split<;>simp[AOp.wrB]
 case callm f t as ws ns=>
  refine⟨by cases t<;>simp[eff,z6H],fun p hp=> ?_⟩
  have:∀as',p∈(z6H E getB f as' ws ns).bx→p.1∈(ws++ns).map (·.2):=fun as' h=>by
   simp only[z6H,List.mem_map] at h
   obtain⟨q,hq,rfl⟩:=h
   exact List.mem_map.2 ⟨q,hq,rfl⟩
  exact this _ hp
 case callw f t as ws ns=>
  refine⟨by cases t<;>simp[eff,z2K],fun p hp=> ?_⟩
  have:∀as',p∈(z2K E getB f as' ws ns).bx→p.1∈(ws++ns).map (·.2):=fun as' h=>by
   simp only[z2K,List.mem_map] at h
   obtain⟨q,hq,rfl⟩:=h
   exact List.mem_map.2 ⟨q,hq,rfl⟩
  exact this _ hp
 all_goals simp[eff,AOp.wrS,AOp.wrB]

theorem z5f {α:Type} {l:List (Nat×α)} {s:Nat} (h:∀p∈l,p.1≠s):lk l s=none:=by
 induction l with
 |nil=>rfl
 |cons p l ih=>
  obtain⟨k,x⟩:=p
  simp only[lk]
  rw[if_neg (fun e=>h (k,x) (by simp) e.symm)]
  exact ih fun p hp=>h p (by simp[hp])

theorem z9y {E:Env} (o:z6a) (st:ASt) {s:Nat} (h:s∉o.W):lk (z9a E o st).env s=lk st.env s:=by
 simp only[z6a.W,List.mem_append,not_or,Option.mem_toList] at h
 have hk:=z5l E st.get st.getB o.op
 have h1:∀d:z0a,lk (o.dst.toList.map fun s=>(s,d)) s=none:=fun d=>z5f fun p hp=>by
  simp only[List.mem_map,Option.mem_toList] at hp
  obtain⟨t,ht,rfl⟩:=hp
  exact fun e=>h.1 (e▸ht)
 have h2:lk (eff E st.get st.getB o.op).sl s=none:=z5f fun p hp e=>h.2 (e▸hk.1 p hp)
 unfold z9a
 cases o.guard with
 |none=>simp only[z4d,h1,h2,Option.none_or]
 |some sw=>
  simp only
  split
  ·simp only[z4d,h1,h2,Option.none_or]
  ·simp only[z4d,h1,Option.none_or]
theorem z2C {E:Env} (o:z6a) (st:ASt) {id:Nat} (h:id∉o.op.wrB):lk (z9a E o st).box id=lk st.box id:=by
 have hk:=z5l E st.get st.getB o.op
 have h2:lk (eff E st.get st.getB o.op).bx id=none:=z5f fun p hp e=>h (e▸hk.2 p hp)
 unfold z9a
 cases o.guard with
 |none=>simp only[z4d,h2,Option.none_or]
 |some sw=>
  simp only
  split
  ·simp only[z4d,h2,Option.none_or]
  ·rfl
theorem z6k {E:Env} (o:z6a) (st:ASt):(z9a E o st).org=st.org:=by
 unfold z9a
 cases o.guard with
 |none=>rfl
 |some sw=>simp only;split<;>rfl

def z0Q (a b:List Nat):Bool:=a.all fun x=> !b.contains x
theorem z0z {a b:List Nat}:z0Q a b=true↔∀x∈a,x∉b:=by simp[z0Q]
def z2s (o p:z6a):Bool:=z0Q o.W (p.R++p.W)&&z0Q p.W o.R&&z0Q o.op.wrB (p.op.rdB++p.op.wrB)&&z0Q p.op.wrB o.op.rdB

def z2m (o p:z6a):Bool:=match o,p with
 |⟨some d1,none,.mv true (.s n)⟩,⟨some d2,none,.mv false (.s m)⟩=>n==m&&d1 !=d2&&d1 !=n&&d2 !=n
 |⟨some d1,none,.extractO n⟩,⟨some d2,none,.extract _ (.s m)⟩=>n==m&&d1 !=d2&&d1 !=n&&d2 !=n
 |_,_=>false
def z06 (o p:z6a):Bool:=z2s o p||z2m o p

def z8g (E:Env) (o:z6a) (get:Nat→z0a) (getB:Nat→Option (List z0a)):List (Nat×z0a)×List (Nat×Option (List z0a)):=
 let e:=eff E get getB o.op
 let run:=((o.dst.toList.map fun s=>(s,e.val))++e.sl,e.bx)
 match o.guard with
 |none=>run
 |some (s,want)=>if z4G (get s) want=true then run else((o.dst.toList.map fun s=>(s,z7j)),[])
theorem z2f (E:Env) (o:z6a) (st:ASt):z9a E o st={st with env:=(z8g E o st.get st.getB).1++st.env,box:=(z8g E o st.get st.getB).2++st.box}:=by
 unfold z9a z8g
 cases o.guard with
 |none=>simp
 |some sw=>simp only;split<;>simp
theorem z5i {E:Env} (o:z6a) {get get':Nat→z0a} {getB getB':Nat→Option (List z0a)} (hs:∀s∈o.R,get s=get' s) (hb:∀i∈o.op.rdB,getB i=getB' i):z8g E o get getB=z8g E o get' getB':=by
 simp only[z6a.R,List.mem_append,or_imp,forall_and] at hs
 have h1:=(z5k (E:=E) o.op hs.2 hb).1
 unfold z8g
 rw[h1]
 cases hg:o.guard with
 |none=>rfl
 |some sw=>
  obtain⟨s,want⟩:=sw
  simp only[hg,List.mem_singleton,forall_eq] at hs
  simp only[hs.1]
theorem z0m {E:Env} (o:z6a) {a b:ASt} (ho:a.org=b.org) (hs:∀s∈o.R,a.get s=b.get s) (hb:∀i∈o.op.rdB,a.getB i=b.getB i) (h:okA E o a):okA E o b:=by
 simp only[z6a.R,List.mem_append,or_imp,forall_and] at hs
 have h1:=(z5k (E:=E) o.op hs.2 hb).2
 unfold okA at*
 rw[←h1,←ho]
 cases hg:o.guard with
 |none=>simpa[hg] using h
 |some sw=>
  obtain⟨s,want⟩:=sw
  simp only[hg,List.mem_singleton,forall_eq] at hs h
  simp only[←hs.1]
  exact h

theorem z4k (E:Env) (o:z6a) (get:Nat→z0a) (getB:Nat→Option (List z0a)):(∀p∈(z8g E o get getB).1,p.1∈o.W)∧(∀p∈(z8g E o get getB).2,p.1∈o.op.wrB):=by
 have hk:=z5l E get getB o.op
 have hd:∀(d:z0a),∀p∈(o.dst.toList.map fun s=>(s,d)),p.1∈o.W:=fun d p hp=>by
  simp only[List.mem_map,Option.mem_toList] at hp
  obtain⟨t,ht,rfl⟩:=hp
  simp only[z6a.W,List.mem_append,Option.mem_toList]
  exact .inl ht
 have hw:∀p∈(eff E get getB o.op).sl,p.1∈o.W:=fun p hp=>by simp only[z6a.W,List.mem_append];exact .inr (hk.1 p hp)
 unfold z8g
 cases o.guard with
 |none=>
  simp only[List.mem_append]
  exact⟨fun p hp=>hp.elim (hd _ p) (hw p),hk.2⟩
 |some sw=>
  simp only
  split
  ·simp only[List.mem_append]
   exact⟨fun p hp=>hp.elim (hd _ p) (hw p),hk.2⟩
  ·exact⟨hd _,by simp⟩

theorem z7m {E:Env} (o:z6a) (st:ASt) {id:Nat} (h:id∉o.op.wrB):(z9a E o st).getB id=st.getB id:=by simp only[ASt.getB,z2C o st h]
theorem z9o {E:Env} (o:z6a) (st:ASt) {s:Nat} (h:s∉o.W):(z9a E o st).get s=st.get s:=by simp only[ASt.get,z9y o st h,z6k]

theorem z0y {E:Env} {o p:z6a} (hi:z2s o p=true) (st:ASt) (h1:okA E o st) (h2:okA E p (z9a E o st)):
  okA E p st∧okA E o (z9a E p st)∧z5m (z9a E o (z9a E p st)) (z9a E p (z9a E o st)):=by
 simp only[z2s,Bool.and_eq_true,z0z,List.mem_append,not_or] at hi
 obtain⟨⟨⟨i1,i2⟩,i3⟩,i4⟩:=hi
 have g1:∀s∈p.R,(z9a E o st).get s=st.get s:=fun s hs=>z9o o st fun h=>(i1 s h).1 hs
 have b1:∀i∈p.op.rdB,(z9a E o st).getB i=st.getB i:=fun s hs=>z7m o st fun h=>(i3 s h).1 hs
 have g2:∀s∈o.R,(z9a E p st).get s=st.get s:=fun s hs=>z9o p st fun h=>i2 s h hs
 have b2:∀i∈o.op.rdB,(z9a E p st).getB i=st.getB i:=fun s hs=>z7m p st fun h=>i4 s h hs
 refine⟨z0m p (z6k o st) g1 b1 h2,z0m o (z6k p st).symm (fun s hs=>(g2 s hs).symm) (fun s hs=>(b2 s hs).symm) h1,?_⟩
 have d1:=z5i (E:=E) p g1 b1
 have d2:=z5i (E:=E) o g2 b2
 have k1:=z4k E o st.get st.getB
 have k2:=z4k E p st.get st.getB
 rw[z2f E o (z9a E p st),z2f E p (z9a E o st),d1,d2,z2f E o st,z2f E p st]
 refine⟨rfl,fun s=> ?_,fun id=> ?_⟩
 ·simp only[z4d]
  by_cases hs:s∈o.W
  ·have:lk (z8g E p st.get st.getB).1 s=none:=z5f fun q hq e=>(i1 s hs).2 (e▸k2.1 q hq)
   simp only[this,Option.none_or]
  ·have:lk (z8g E o st.get st.getB).1 s=none:=z5f fun q hq e=>hs (e▸k1.1 q hq)
   simp only[this,Option.none_or]
 ·simp only[z4d]
  by_cases hs:id∈o.op.wrB
  ·have:lk (z8g E p st.get st.getB).2 id=none:=z5f fun q hq e=>(i3 id hs).2 (e▸k2.2 q hq)
   simp only[this,Option.none_or]
  ·have:lk (z8g E o st.get st.getB).2 id=none:=z5f fun q hq e=>hs (e▸k1.2 q hq)
   simp only[this,Option.none_or]

theorem z0o (d:z0a):dem (dem d)=dem d:=by
 cases d with
 |sl m _ _ _=>cases m<;>rfl
 |_=>rfl
theorem z3A {E:Env} {d1 d2 n:Nat} (h12:d1≠d2) (h1n:d1≠n) (h2n:d2≠n) (st:ASt) (h1:okA E ⟨some d1,none,.mv true (.s n)⟩ st) (h2:okA E ⟨some d2,none,.mv false (.s n)⟩ (z9a E ⟨some d1,none,.mv true (.s n)⟩ st)):
  okA E ⟨some d2,none,.mv false (.s n)⟩ st∧okA E ⟨some d1,none,.mv true (.s n)⟩ (z9a E ⟨some d2,none,.mv false (.s n)⟩ st)∧
   z5m (z9a E ⟨some d1,none,.mv true (.s n)⟩ (z9a E ⟨some d2,none,.mv false (.s n)⟩ st)) (z9a E ⟨some d2,none,.mv false (.s n)⟩ (z9a E ⟨some d1,none,.mv true (.s n)⟩ st)):=by
 have eA:∀st:ASt,z9a E ⟨some d1,none,.mv true (.s n)⟩ st={st with env:=(d1,st.get n)::(n,dem (st.get n))::st.env}:=fun _=>rfl
 have eB:∀st:ASt,z9a E ⟨some d2,none,.mv false (.s n)⟩ st={st with env:=(d2,dem (st.get n))::st.env}:=fun _=>rfl
 have gA:(z9a E ⟨some d1,none,.mv true (.s n)⟩ st).get n=dem (st.get n):=by
  rw[eA];simp only[ASt.get,lk,if_neg (Ne.symm h1n),if_true]
 have gB:(z9a E ⟨some d2,none,.mv false (.s n)⟩ st).get n=st.get n:=by
  rw[eB];simp only[ASt.get,lk,if_neg (Ne.symm h2n)]
 refine⟨h2,h1,?_⟩
 rw[eA (z9a _ _ _),eB (z9a _ _ _),gA,gB,z0o,eA,eB]
 refine⟨rfl,fun s=> ?_,fun _=>rfl⟩
 simp only[lk]
 by_cases e1:s=d1
 ·rw[if_pos e1,if_neg (by rw[e1];exact h12),if_pos e1]
 ·rw[if_neg e1,if_neg e1]
  by_cases e2:s=d2
  ·rw[if_pos e2,if_pos e2,if_neg (by rw[e2];exact h2n)]
  ·rw[if_neg e2,if_neg e2]
theorem z1B {E:Env} {d1 d2 n i:Nat} (h12:d1≠d2) (h1n:d1≠n) (h2n:d2≠n) (st:ASt) (h1:okA E ⟨some d1,none,.extractO n⟩ st) (h2:okA E ⟨some d2,none,.extract i (.s n)⟩ (z9a E ⟨some d1,none,.extractO n⟩ st)):
  okA E ⟨some d2,none,.extract i (.s n)⟩ st∧okA E ⟨some d1,none,.extractO n⟩ (z9a E ⟨some d2,none,.extract i (.s n)⟩ st)∧
   z5m (z9a E ⟨some d1,none,.extractO n⟩ (z9a E ⟨some d2,none,.extract i (.s n)⟩ st)) (z9a E ⟨some d2,none,.extract i (.s n)⟩ (z9a E ⟨some d1,none,.extractO n⟩ st)):=by
 obtain⟨V,hV⟩:∃V:z0a→z0a,V=fun d=>match d with| .otup e nl n cs _=> .sl (.own e) nl n cs|_=> .undef:=⟨_,rfl⟩
 obtain⟨X,hX⟩:∃X:z0a→z0a,X=fun d=>match d with| .tup vs=>dem (vs.getD i .undef)|_=> .undef:=⟨_,rfl⟩
 have eA:∀st:ASt,z9a E ⟨some d1,none,.extractO n⟩ st={st with env:=(d1,V (st.get n))::(n,dem (st.get n))::st.env}:=fun _=>by rw[hV];rfl
 have eB:∀st:ASt,z9a E ⟨some d2,none,.extract i (.s n)⟩ st={st with env:=(d2,X (dem (st.get n)))::st.env}:=fun _=>by rw[hX];rfl
 have gA:(z9a E ⟨some d1,none,.extractO n⟩ st).get n=dem (st.get n):=by
  rw[eA];simp only[ASt.get,lk,if_neg (Ne.symm h1n),if_true]
 have gB:(z9a E ⟨some d2,none,.extract i (.s n)⟩ st).get n=st.get n:=by
  rw[eB];simp only[ASt.get,lk,if_neg (Ne.symm h2n)]
 have ok2:∀st:ASt,okA E ⟨some d2,none,.extract i (.s n)⟩ st↔(∀s∈[d2],lk st.org s=none)∧(match dem (st.get n) with| .tup vs=>i<vs.length|_=>False):=fun _=>Iff.rfl
 have ok1:∀st:ASt,okA E ⟨some d1,none,.extractO n⟩ st↔(∀s∈[d1,n],lk st.org s=none)∧(match st.get n with| .otup _ _ _ _ _=>True|_=>False):=fun _=>Iff.rfl
 refine⟨?_,?_,?_⟩
 ·rw[ok2] at h2⊢
  rw[gA,z0o,eA] at h2
  exact h2
 ·rw[ok1] at h1⊢
  rw[gB,eB]
  exact h1
 rw[eA (z9a _ _ _),eB (z9a _ _ _),gA,gB,z0o,eA,eB]
 refine⟨rfl,fun s=> ?_,fun _=>rfl⟩
 simp only[lk]
 by_cases e1:s=d1
 ·rw[if_pos e1,if_neg (by rw[e1];exact h12),if_pos e1]
 ·rw[if_neg e1,if_neg e1]
  by_cases e2:s=d2
  ·rw[if_pos e2,if_pos e2,if_neg (by rw[e2];exact h2n)]
  ·rw[if_neg e2,if_neg e2]
theorem z3ia {E:Env} {o p:z6a} (hi:z06 o p=true) (st:ASt) (h1:okA E o st) (h2:okA E p (z9a E o st)):
  okA E p st∧okA E o (z9a E p st)∧z5m (z9a E o (z9a E p st)) (z9a E p (z9a E o st)):=by
 rw[z06,Bool.or_eq_true] at hi
 rcases hi with hi|hi
 ·exact z0y hi st h1 h2
 ·unfold z2m at hi
  split at hi
  ·rename_i d1 n d2 m
   simp only[Bool.and_eq_true,beq_iff_eq,bne_iff_ne] at hi
   obtain⟨⟨⟨rfl,h12⟩,h1n⟩,h2n⟩:=hi
   exact z3A h12 h1n h2n st h1 h2
  ·rename_i d1 n d2 i m
   simp only[Bool.and_eq_true,beq_iff_eq,bne_iff_ne] at hi
   obtain⟨⟨⟨rfl,h12⟩,h1n⟩,h2n⟩:=hi
   exact z1B h12 h1n h2n st h1 h2
  ·cases hi

theorem z1zc {E:Env} {o:z6a}:∀(pre post:List z6a) (st:ASt),(∀p∈pre,z06 p o=true)→z5t E (pre++o::post) st→
  okA E o st∧z5t E (pre++post) (z9a E o st)∧z5m (z8I E (pre++post) (z9a E o st)) (z8I E (pre++o::post) st)
 |[],post,st,_,h=>⟨h.1,h.2,z5m.refl _⟩
 |p::pre,post,st,hi,h=>by
  obtain⟨h1,h2⟩:=h
  obtain⟨k1,k2,k3⟩:=z1zc pre post (z9a E p st) (fun q hq=>hi q (by simp[hq])) h2
  obtain⟨c1,c2,c3⟩:=z3ia (hi p (by simp)) st h1 k1
  refine⟨c1,⟨c2,z47b _ c3.symm k2⟩,?_⟩
  exact(z3Ec _ c3).trans k3

end Go.Abs
end

section
namespace Go.Abs

def WF (r:Option Nat):Fence:={Fence.wide with round:=r}
theorem z9dc (r:Option Nat) (f:FuncId):(WF r).fn f:=trivial
theorem z7hd (r:Option Nat):(WF r).round=r:=rfl
theorem z1gc (r:Option Nat):(WF r).depth=none:=rfl
theorem z58b {r:Option Nat} {n:Nat} {P:Program} {f:FuncId} {args:Array Value} {w:World} {R:Ending→World→Prop}:CallsIn (WF r) n P f args w R↔Calls P f args w R:=by
 have h:CallsIn (WF r) n P f args w R↔CallsIn Fence.wide n P f args w R:=Iff.rfl
 rw[h];exact callsIn_wide
theorem z8Zc {r:Option Nat} {n:Nat} {P:Program} {row:String} {args:Array Value} {w:World} {R:Value→World→Prop} (h:Rows P row args w R):RowsIn (WF r) n P row args w R:=
 fun c cs _=>let⟨v,w',h1,h2⟩:=h c cs;⟨v,w',h1,(stepsIn_wide.2 h2:StepsIn (Machine.fenced P Fence.wide) P _ _)⟩

theorem z2Rc {r:Option Nat} {n:Nat} {P:Program} {o:Oper} {a:Act} {w:World} {K:Act→World→Prop} {Q:Exit→Act→World→Prop} (hd:∀c,o.op≠ .defer c) (h:o.wp P a w K Q):o.wpIn (WF r) n P a w K Q:=by
 refine⟨fun f _=>z9dc r f,?_⟩
 rw[Oper.semAt_plain (WF r) _ _ hd]
 unfold Oper.wp at h
 generalize(execOp a.eval o).run P w=res at*
 have hdep:((WF r).depth.isSome=true→1≤n):=fun h=>by simp[z1gc] at h
 cases res with
 |ok x w'=>
  cases x<;>simp only[Oper.upon,Oper.uponIn] at h⊢<;>
   first
    |exact h
    |exact⟨hdep,z58b.2 h⟩
    |exact⟨hdep,z8Zc h⟩
 |halt x w'=>cases x<;>simp only[Oper.upon,Oper.uponIn] at h⊢<;>exact h

section
variable {P : Program} {F : Fence} {n : Nat} {a : Act} {w : World} {Q : Exit → Act → World → Prop}
theorem z11a {b:Frame} {k:List Item} {cs:List Frame} {c:Code}:step P (lone (b.atR a (.code (.scope c)::k)) cs w)= .next (lone (b.atR a (.code c:: .inScope c::k)) cs w):=
 step_lone_go (by simp[stepG,stepG.exec,Frame.atR])
theorem z5ac {b:Frame} {k:List Item} {cs:List Frame} {c:Code}:step P (lone (b.atR a (.inScope c::k)) cs w)= .next (lone (b.atR a k) cs w):=
 step_lone_go (by simp[stepG,stepG.exec,Frame.atR])
theorem z26b {c:Code} (h:c.wpIn F n P (Exit.noGoto Q) a w):(Code.scope c).wpIn F n P Q a w:=by
 intro b k cs hro hb hr
 have h0:(lone (b.atR a (.code (.scope c)::k)) cs w).fenced P F:=fenced_calm hb hr rfl
 obtain⟨e,a₁,w₁,hq,harr⟩:=h b (.inScope c::k) cs hro hb hr
 cases e with
 |normal=>exact⟨.normal,a₁,w₁,hq,.head h0 z11a (StepsIn.trans harr (.one (fenced_calm hb hr rfl) z5ac))⟩
 |exit id=>
  have hx:exitTo id (.inScope c::k)=exitTo id k:=by simp[exitTo]
  exact⟨.exit id,a₁,w₁,hq,fun k' hk=> .head h0 z11a (harr.1 k' (by rw[hx];exact hk)),
   fun hr' hk=>let⟨k₁,h1,h2⟩:=harr.2 hr' (by rw[hx];exact hk);⟨k₁,h1,.head h0 z11a h2⟩⟩
 |goto l=>exact hq.elim
 |ret=>exact⟨_,a₁,w₁,hq,.of_steps (.one h0 z11a) harr⟩
 |panic ch=>exact⟨_,a₁,w₁,hq,.of_steps (.one h0 z11a) harr⟩
 |outgrown=>exact⟨_,a₁,w₁,hq,.of_steps (.one h0 z11a) harr⟩

theorem z2tb {c:Code} (I:Nat→Act→World→Prop) {m:Nat} (h₀:I m a w)
  (round:∀m a w,I m a w→c.wpIn F n P (Exit.then (fun a' w'=>∃m',m'<m∧I m' a' w') Q) a w):(Code.loop c).wpIn F n P Q a w:=by
 intro b k cs hro hb hr
 have key:∀j a w,I j a w→∃e a' w',Q e a' w'∧ArrivesIn (Machine.fenced P F) P (lone (b.atR a (.code c:: .inLoop c::k)) cs w) b k cs e a' w':=by
  intro j
  induction j using Nat.strongRecOn with
  |_ j ih=>
   intro a w hI
   obtain⟨e,a₁,w₁,hq,harr⟩:=round j a w hI b (.inLoop c::k) cs hro hb hr
   cases e with
   |normal=>
    obtain⟨m',hlt,hI₁⟩:=hq
    obtain⟨e₂,a₂,w₂,hq₂,harr₂⟩:=ih m' hlt a₁ w₁ hI₁
    exact⟨e₂,a₂,w₂,hq₂,.of_steps (StepsIn.trans harr (.one (fenced_calm hb hr rfl) stepR_inLoop)) harr₂⟩
   |exit id=>exact⟨_,a₁,w₁,hq,.pass (x:= .inLoop c) rfl (fun _ _=> .inl (by simp)) harr⟩
   |goto l=>exact⟨_,a₁,w₁,hq,.pass (x:= .inLoop c) rfl (fun _ _=> .inl (by simp)) harr⟩
   |ret=>exact⟨_,a₁,w₁,hq,.pass (x:= .inLoop c) rfl (fun _ _=> .inl (by simp)) harr⟩
   |panic ch=>exact⟨_,a₁,w₁,hq,.pass (x:= .inLoop c) rfl (fun _ _=> .inl (by simp)) harr⟩
   |outgrown=>exact⟨_,a₁,w₁,hq,.pass (x:= .inLoop c) rfl (fun _ _=> .inl (by simp)) harr⟩
 obtain⟨e,a',w',hq,harr⟩:=key _ a w h₀
 exact⟨e,a',w',hq,.of_steps (.one (fenced_calm hb hr rfl) stepR_loop) harr⟩
end
end Go.Abs
end

section
set_option linter.unusedVariables false
namespace Go.Abs

def z2Oc (w:World) (b:Nat):Option Nat:=match w.cell? ⟨b,1,none⟩ with|some (.slice (some a) _ _)=>some a.block|_=>none
structure z4od (w w':World) (b:Nat):Prop where
 os:w'.os=w.os
 tape:w'.tape=w.tape
 output:w'.output=w.output
 size:w.heap.size≤w'.heap.size
 block:∀k,k<w.heap.size→k≠b→z2Oc w b≠some k→w'.heap[k]? =w.heap[k]?
 buf:z2Oc w' b=z2Oc w b∨((∀k,z2Oc w' b=some k→w.heap.size≤k)∧∀k,k<w.heap.size→k≠b→w'.heap[k]? =w.heap[k]?)

structure z5bc (K:Cx) (m:Nat):Prop where
 call:z4z K.P (K.bf m)
 len:m=0→∀b bs w,Lib.IsBuilder K.bt K.b5 0 b bs w→Calls K.P (K.bf 0) #[.pointer (some ⟨b,0,none⟩)] w fun e w'=>e= .returned (.int .i64 bs.length)∧w'=w
 wstr:m=1→∀b bs s w,Lib.IsBuilder K.bt K.b5 0 b bs w→bs.length+s.size≤140737488355328→Calls K.P (K.bf 1) #[.pointer (some ⟨b,0,none⟩),.string s] w fun e w'=>e= .returned (.tuple #[.int .i64 s.size,.nilIface])∧Lib.IsBuilder K.bt K.b5 0 b (bs++Lib.strCells s) w'∧z4od w w' b
 write:m=2→∀b bs ad m c news w,Lib.IsBuilder K.bt K.b5 0 b bs w→news.length=m→(∀j u,news[j]? =some u→w.cell? (ad.add j)=some u)→ad.block≠b→(∀u∈news,u.oneCell'=true)→bs.length+m≤140737488355328→
  Calls K.P (K.bf 2) #[.pointer (some ⟨b,0,none⟩),.slice (some ad) m c] w fun e w'=>e= .returned (.tuple #[.int .i64 m,.nilIface])∧Lib.IsBuilder K.bt K.b5 0 b (bs++news) w'∧z4od w w' b
 str:m=3→∀b l w,Lib.IsBuilder K.bt K.b5 0 b (Lib.byteCells l) w→l≠[]→Calls K.P (K.bf 3) #[.pointer (some ⟨b,0,none⟩)] w fun e w'=>e= .returned (.string ⟨l.toArray⟩)∧(w'.os=w.os∧w'.tape=w.tape∧w'.output=w.output∧w.heap.size≤w'.heap.size∧∀k,k<w.heap.size→k≠b→z2Oc w b≠some k→w'.heap[k]? =w.heap[k]?)∧∀x,w'.cell? x=w.cell? x

section
variable {K : Cx} {base : z4f} {g g' : Gh} {w w' : World} {get : Nat → z0a} {getB : Nat → Option (List z0a)} {a : Act} {o : Oper} {d : Option Nat}
theorem z4j (l:List UInt8):z9e (z3i l)=⟨l.toArray⟩:=by
 unfold z9e z3i
 rw[List.map_map]
 congr 2
 conv=>rhs;rw[←List.map_id l]
 refine List.map_congr_left fun u _=> ?_
 simp[asI]
end
end Go.Abs
end

section
namespace Go.Abs

def CW.ins (c:CW) (bs:Nat→List z0a) (j:Nat):Option (List z0a):=if j∈c.bx then some (bs j) else none
def CW.outs (c:CW) (ds:List z0a) (bs:Nat→List z0a) (j:Nat):Option (List z0a):=if j∈c.bx++c.nb then some (c.out ds bs j) else none
def z7ib (K:Cx) (f:Nat) (c:CW):Prop:=
 z4z K.P (K.nu f)∧∀(g:Gh) (w:World) (ds:List z0a) (bs:Nat→List z0a) (vs:List Value),Inv K ⟨w,Wr g,g.S,[],g.mu⟩ g w (c.ins bs)→z2b K.toCon g w ds vs→(∀j∈c.bx,(400000≤j∧j<500000)∨∃i∈c.hold,∃d,ds[i]? =some d∧j∈z3d d)→c.pre ds bs→
  Calls K.P (K.nu f) vs.toArray w fun e w'=>∃v g',e= .returned v∧Inv K ⟨w,Wr g,g.S,[],g.mu⟩ g' w' (c.outs ds bs)∧(∀j∈c.bx,g'.mu j=g.mu j)∧Rep K.toCon g' w' (some .ret) (c.post ds bs) v

section
variable {K : Cx} {base : z4f} {g g' : Gh} {w w' : World} {get : Nat → z0a} {getB : Nat → Option (List z0a)} {a : Act} {o : Oper} {d : Option Nat}

theorem z2Hc:∀{cs:List z0a} {i:Nat} {d:z0a},cs[i]? =some d→∀{id:Nat},id∈z3d d→id∈z6b cs
 |[],i,d,h,_,_=>by simp at h
 |c::cs,0,d,h,id,hid=>by
  simp at h;subst h
  simp only[z6b,List.mem_append];exact .inl hid
 |c::cs,i+1,d,h,id,hid=>by
  simp only[z6b,List.mem_append]
  exact .inr (z2Hc (by simpa using h) hid)
theorem z6xc (hI:Inv K base g w getB) {ws:List (Nat×Nat)} {c:CW} (hok:∀p∈ws,∃cs,getB p.2=some cs∧z0T ws cs) (hbx:ws.map (·.1)=c.bx) (hn1:c.bx.Nodup) (hn:(ws.map (·.2)).Nodup) (hlo:∀p∈ws,p.1<1000000) (hlp:∀p∈ws,500000≤p.1→500000≤p.2):
  Inv K ⟨w,Wr (ghM g ws),(ghM g ws).S,[],(ghM g ws).mu⟩ (ghM g ws) w (c.ins (z2u getB ws)):=by
 have nofnd:∀j,j∉c.bx→fnd ws j=none:=fun j hj=>z1Vb (by rw[hbx];exact hj)
 have inj1:∀j j' id,fnd ws j=some id→fnd ws j'=some id→j=j':=fun j j' id h h'=>by
  have e1:=z6wa (l:=swp ws) (by rw[z8lb];exact hn) (z4Pa.2 (z5u h))
  have e2:=z6wa (l:=swp ws) (by rw[z8lb];exact hn) (z4Pa.2 (z5u h'))
  rw[e1] at e2;cases e2;rfl
 refine⟨Fr.refl _ _ _,fun _ _ _=>rfl,fun i j b hi hj=> ?_,fun j cs hc=> ?_,fun j hj=> ?_,fun j b hb=> ?_,fun b l hb=> ?_,hI.glob,z9d.refl _ _,fun j b cs hj hb _ _=>by
  obtain⟨id,h1,_⟩:=z3Kb hb
  have:=hlo _ (z5u h1)
  simp only at this
  omega,fun j b _ _ hb=>hb⟩
 ·obtain⟨x,h1,h2⟩:=z3Kb hi
  obtain⟨y,h3,h4⟩:=z3Kb hj
  have:=hI.inj x y b h2 h4
  subst this
  exact inj1 i j x h1 h3
 ·have hj:j∈c.bx:=by
   unfold CW.ins at hc
   split at hc
   ·assumption
   ·cases hc
  obtain⟨id,hf⟩:=z0Ab (l:=ws) (k:=j) (by rw[hbx];exact hj)
  obtain⟨cs',h1,h2⟩:=hok _ (z5u hf)
  have h3:c.ins (z2u getB ws) j=some (wIn ws cs'):=by
   unfold CW.ins z2u
   rw[if_pos hj,hf]
   simp only[h1,Option.getD_some]
  rw[hc] at h3
  have h3:=Option.some.inj h3
  obtain⟨b,k1,k2,k3⟩:=hI.bxok id cs' h1
  refine⟨b,by simp only[ghM,hf,Option.bind_some];exact k1,k2,fun i e hi=> ?_⟩
  have hloc:∀m',some (Loc.cell j i)=some m'→∃m,some (Loc.cell id i)=some m∧z8f g w (ghM g ws) w m m':=fun m' hm'=>by
   cases hm'
   exact⟨_,rfl,fun b' hb'=>⟨z21b hn (z5u hf) hb',rfl,fun _ _ h=>h⟩⟩
  rw[h3] at hi
  unfold z0T at h2
  unfold wIn at hi
  by_cases hv:z4m ws=true
  ·rw[if_pos hv] at h2 hi
   rw[z09b] at hi
   obtain⟨e0,he0,rfl⟩:=Option.map_eq_some_iff.1 hi
   obtain⟨⟨x,hx,hr⟩,hz⟩:=k3 i e0 he0
   refine⟨⟨x,hx,?_⟩,hz⟩
   refine Rep.ren (g:=g) (g':=ghM g ws) (m:=swp ws) (z9d.refl _ _) (z2vc fun p hp h=>by obtain⟨k,x⟩:=p;exact hlp (x,k) (z4Pa.1 hp) h) e0 x _ _ (fun id' hid' b' hb'=> ?_) hloc hr
   obtain⟨p,hp,rfl⟩:=List.mem_map.1 (h2 id' (z2Hc he0 hid'))
   obtain⟨j',id'⟩:=p
   have e1:=z6wa (l:=swp ws) (by rw[z8lb];exact hn) (z4Pa.2 hp)
   have e2:=z6wa (l:=ws) (by rw[hbx];exact hn1) hp
   rw[e1]
   simp only[ghM,Option.getD_some,e2,Option.bind_some]
   exact hb'
  ·rw[if_neg hv] at h2 hi
   obtain⟨⟨x,hx,hr⟩,hz⟩:=k3 i e hi
   refine⟨⟨x,hx,?_⟩,hz⟩
   refine Rep.mono (g:=g) (g':=ghM g ws) (z9d.refl _ _) e x _ _ (fun id' hid'=> ?_) hloc hr
   have:z3d e=[]:=z2Qb.pure_refs e ((z4i cs').1 h2 e (z3ya hi))
   rw[this] at hid';cases hid'
 ·have hj':j∉c.bx:=fun h=>by simp[CW.ins,h] at hj
  simp only[ghM,nofnd j hj',Option.bind_none]
 ·obtain⟨id,h1,h2⟩:=z3Kb hb
  have:=hI.muW id b h2
  exact⟨.inr (.inl ⟨j,hb⟩),this.2.1,z33b this.2.2⟩
 ·obtain⟨id,i,j,h1,_,_⟩:=z30c hb
  exact⟨.inr (.inr (by rw[hb];simp)),(hI.owW b _ h1).2⟩

theorem z9pc (hI:Inv K base g w getB) {ws:List (Nat×Nat)} {as:List z0a} {vs:List Value} {c:CW} (hok:∀a∈as,z43d ws a) (hbx:ws.map (·.1)=c.bx) (hn1:c.bx.Nodup) (hn:(ws.map (·.2)).Nodup) (hlo:∀p∈ws,500000≤p.1→500000≤p.2) (hr:z2b K.toCon g w as vs):
  z2b K.toCon (ghM g ws) w (as.map (z27c ws)) vs:=by
 refine z2b.mk (by rw[List.length_map];exact hr.len) fun i x v hx hv=> ?_
 rw[List.getElem?_map,Option.map_eq_some_iff] at hx
 obtain⟨y,hy,rfl⟩:=hx
 obtain⟨v',hv',hrep⟩:=hr.get i y hy
 rw[hv] at hv';cases hv'
 have hk:=hok y (z3ya hy)
 unfold z43d at hk
 unfold z27c
 cases hrf:z3d y with
 |nil=>
  rw[hrf] at hk
  simp only at hk⊢
  have h1:=z6bc (bs:=[]) hI (fun id hid=>by cases hid) hrep (by simpa using hk)
  have hS:z3Cb g getB []=g.S:=funext fun b=>z92a (by simp)
  rw[hS] at h1
  exact z9b.rep (g:=ghM g ws) _ _ (by simpa[ghM] using h1)
 |cons r rs=>
  rw[hrf] at hk
  simp only at hk⊢
  rw[←hrf] at hk
  refine Rep.ren (g:=g) (g':=ghM g ws) (m:=swp ws) (z9d.refl _ _) (z2vc fun p hp h=>by obtain⟨k,x⟩:=p;exact hlo (x,k) (z4Pa.1 hp) h) y v none none (fun id hid b hb=> ?_) (fun _ h=>by cases h) hrep
  obtain⟨p,hp,rfl⟩:=List.mem_map.1 (hk id hid)
  obtain⟨j,id⟩:=p
  have e1:=z6wa (l:=swp ws) (by rw[z8lb];exact hn) (z4Pa.2 hp)
  have e2:=z6wa (l:=ws) (by rw[hbx];exact hn1) hp
  rw[e1]
  simp only[ghM,Option.getD_some,e2,Option.bind_some]
  exact hb

theorem z67b (hI:Inv K base g w getB) (hS:z3v K g w get a) {f:Nat} (hV:z7ib K f (K.E.C f)) {as:List z0a} {ws ns:List (Nat×Nat)} {vs:List Value} (hr:z2b K.toCon g w as vs) (hok:okW K.E getB f as ws ns)
  {next:Act→World→Prop} {Q:Exit→Act→World→Prop} (hn:∀v w',z0rc K base a get getB d (z2K K.E getB f as ws ns) v w'→next (a.put o.dst v) w') (hrun:(execOp a.eval o).run K.P w= .ok (.enter (K.nu f) vs.toArray) w):
  o.wp K.P a w next Q:=by
 obtain⟨h1,h4,h2,h3,h5,h6,h7,h8,hlo,hh,h9,h10,h11⟩:=hok
 unfold Oper.wp
 rw[hrun,Oper.upon_enter]
 have hb1:=(List.nodup_append.1 h8).1
 refine(hV.2 (ghM g ws) w _ (z2u getB ws) vs (z6xc hI h4 h2 hb1 h3 (fun p hp=>(hlo p (List.mem_append_left _ hp)).1) fun p hp=>(hlo p (List.mem_append_left _ hp)).2.2.1) (z9pc hI h1 h2 hb1 h3 (fun p hp=>(hlo p (List.mem_append_left _ hp)).2.2.1) hr) hh h9).mono ?_
 rintro e w' ⟨v,g1,rfl,hI1,hmu,hrep⟩
 refine hn v w' (z62b (c:=⟨(K.E.C f).bx,(K.E.C f).nb,fun _=>True,fun _=>(K.E.C f).post (as.map (z27c ws)) (z2u getB ws),fun _=>(K.E.C f).out (as.map (z27c ws)) (z2u getB ws)⟩) (ds:=[]) hI hS h2 h5 h8 h3 h6 (fun p hp=> ?_) h7 hlo hI1 hmu hrep h10 h11)
 obtain⟨cs,hcs,_⟩:=h4 p hp
 exact⟨cs,hcs⟩

theorem z0Jc (hI:Inv K base g w getB) (hS:z3v K g w get a) {f:Nat} {t:Option Arg} {args:List Arg} {ws ns:List (Nat×Nat)} (h:z33a K o.op f t args=true) (hV:z7ib K f (K.E.C f)) (hok:okp K.E get getB (.callw f t args ws ns))
  {next:Act→World→Prop} {Q:Exit→Act→World→Prop} (hn:∀v w',z0rc K base a get getB d (eff K.E get getB (.callw f t args ws ns)) v w'→next (a.put o.dst v) w'):o.wp K.P a w next Q:=by
 cases t with
 |none=>
  simp only[z33a] at h
  obtain⟨_,hok⟩:=hok
  unfold z2Rb at h
  split at h
  ·rename_i c ho
   simp only[Bool.and_eq_true] at h
   obtain⟨hc,ha⟩:=h
   split at hc
   ·rename_i f' hcal
    simp only[beq_iff_eq] at hc
    subst hc
    obtain⟨_,hr⟩:=z6ab hI hS ha
    refine z67b hI hS hV hr hok hn ?_
    simp only[execOp,ho,resolve,hcal,Act.eval,Deferred.ofValue,Sem.run_bind,Sem.run_pure,Result.andThen_ok,invoke]
    rw[z2Ma w hV.1]
    congr 2
    apply Array.ext'
    simp
   ·cases hc
  ·cases h
 |some t=>
  simp only[z33a] at h
  unfold z1Ab at h
  split at h
  ·rename_i c ho
   simp only[Bool.and_eq_true] at h
   obtain⟨hc,ha⟩:=h
   split at hc
   ·rename_i x hcal
    obtain⟨_,hr⟩:=z6ab hI hS ha
    obtain⟨ht,hok⟩:=hok
    have rt:=z3qa hI hS hc
    simp only at ht
    split at ht
    ·rename_i f' p q et
     subst ht
     rw[et] at rt
     simp only[et,z9f] at hok
     simp only[Rep] at rt
     obtain⟨pv,qv,vt,hp,hq⟩:=rt
     have hef:eff K.E get getB (.callw f' (some t) args ws ns)=z2K K.E getB f' (p++args.map (arg K.E get)++q) ws ns:=by simp only[eff,et,z9f]
     rw[hef] at hn
     refine z67b hI hS hV ((hp.append hr).append hq) hok hn ?_
     simp only[execOp,ho,resolve,hcal,vt,Deferred.ofValue,Sem.run_bind,Sem.run_pure,Result.andThen_ok,invoke]
     rw[z2Ma w hV.1]
     congr 2
     apply Array.ext'
     simp
    ·cases ht
   ·cases hc
  ·cases h

end
end Go.Abs
end

section
namespace Go.Abs

def z1Cc (K:Cx) (op:Op) (x:AOp):Bool:=
 match x with
 | .call f as _=>z2Rb K op f as
 | .callv _ t as _=>z1Ab K op t as
 | .callm f t as _ _=> !Nat.ble 500000000 f&&z33a K op f t as
 | .callw f t as _ _=> !Nat.ble 400000000 f&&z33a K op f t as
 | .bld _ _ _ _ _=>false
 |x=>z5kd K op x

def z8sb (ops:Array Oper) (g:Option (Nat×Bool)) (g':Option (Nat×Bool)):Bool:=
 match g,g' with
 |none,none=>true
 |some (j,want),some (s,want')=>(match ops[j]? with|some o=>o.dst==some s|none=>false)&&(want==want')
 |_,_=>false

def z0Fb (K:Cx) (n:Nat) (ops:Array Oper) (o:Oper) (x:z6a):Bool:=
 (o.dst==x.dst)&&x.dst.toList.all (· <n)&&z8sb ops o.guard x.guard&&z1Cc K o.op x.op

def wNo (f:Nat):Nat:=500000000+f
def z1A:AOp→List (Nat×Bool)| .call f _ _=>[(f,false)]| .callv f _ _ _=>[(f,false)]| .callm f _ _ _ _=>[(f,true)]| .callw f _ _ _ _=>[(wNo f,true)]| .bld k _ _ _ _=>[(999999990+k,true)]|_=>[]
def VB (K:Cx) (p:Nat×Bool):Prop:=match p.2 with|false=>z1a K p.1 (K.E.G p.1)|true=>match Nat.ble 999999990 p.1 with|true=>z5bc K (p.1-999999990)|false=>match Nat.ble 500000000 p.1 with|true=>z7ib K (p.1-500000000) (K.E.C (p.1-500000000))|false=>z0Na K p.1 (K.E.M p.1)
def VOk (K:Cx) (x:AOp):Prop:=∀p∈z1A x,VB K p

section
variable {K : Cx} {base : z4f} {n : Nat} {st : ASt} {a : Act} {w : World} {ops : Array Oper}

theorem z49c {st':ASt} (h:z5m st st') (hR:Rel K base n st a w):Rel K base n st' a w:=by
 obtain⟨g,h1,h2,h3,h4,h5⟩:=hR
 refine⟨g,by rw[←h.getB];exact h1,by rw[←h.get];exact h2,fun s d hd=>h3 s d (by rw[h.org];exact hd),h4,h5⟩

theorem z4zb {dst:Option Nat} {v:Value} {s:Nat} (hlt:∀t∈dst.toList,t<a.tmps.size):(a.put dst v).tmps.getD s undef=if dst=some s then v else a.tmps.getD s undef:=by
 cases dst with
 |none=>simp[Act.put]
 |some t=>
  have ht:t<a.tmps.size:=hlt t (by simp)
  simp only[Act.put,Option.some.injEq,Array.getD_eq_getD_getElem?,Array.getElem?_setIfInBounds]
  by_cases h:t=s
  ·subst h;simp[ht]
  ·simp[h]

theorem z6rc (hR:Rel K base n st a w) {o:z6a} {e:Eff} {v:Value} {w':World} (hlt:∀t∈o.dst.toList,t<n) (horg:∀s∈o.dst.toList,lk st.org s=none) (hsl:∀p∈e.sl,lk st.org p.1=none)
  (hG:z0rc K base a st.get st.getB o.dst e v w'):Rel K base n {st with env:=(o.dst.toList.map fun s=>(s,e.val))++e.sl++st.env,box:=e.bx++st.box} (a.put o.dst v) w':=by
 obtain⟨_,_,_,hO,hdf,hsz⟩:=hR
 obtain⟨g',h1,h2,h3⟩:=hG
 have hlt':∀t∈o.dst.toList,t<a.tmps.size:=by rw[hsz];exact hlt
 refine⟨g',?_,fun s=> ?_,fun s d hd=> ?_,?_,?_⟩
 ·have:(ASt.getB {st with env:=(o.dst.toList.map fun s=>(s,e.val))++e.sl++st.env,box:=e.bx++st.box})=z9Qb st.getB e.bx:=funext fun id=>by
   simp only[ASt.getB,z9Qb,z4d]
   cases lk e.bx id<;>simp
  rw[this]
  exact h1
 ·rw[z4zb hlt']
  have hget:ASt.get {st with env:=(o.dst.toList.map fun s=>(s,e.val))++e.sl++st.env,box:=e.bx++st.box} s=if o.dst=some s then e.val else upd st.get e.sl s:=by
   simp only[ASt.get,z4d,upd]
   cases hd:o.dst with
   |none=>simp[lk];cases lk e.sl s<;>simp
   |some t=>
    simp only[Option.toList_some,List.map_cons,List.map_nil,lk,Option.some.injEq]
    by_cases h:s=t
    ·simp[h]
    ·rw[if_neg h,if_neg (fun e=>h e.symm)]
     cases lk e.sl s<;>simp
  rw[hget]
  by_cases h:o.dst=some s
  ·rw[if_pos h,if_pos h]
   rw[h] at h3
   exact h3
  ·rw[if_neg h,if_neg h]
   exact h2 s
 ·rw[z4zb hlt']
  have hne:o.dst≠some s:=fun e=>by
   have:=horg s (by simp[e])
   simp only at hd
   rw[this] at hd;cases hd
  rw[if_neg hne]
  exact hO s d hd
 ·cases hd:o.dst<;>simp[Act.put,hdf]
 ·cases hd:o.dst<;>simp[Act.put,hsz]

theorem z6xb (hR:Rel K base n st a w) {oper:Oper} {o:z6a} (hg:z8sb ops oper.guard o.guard=true) {s:Nat} {want:Bool} (ho:o.guard=some (s,want)) (hb:okG (st.get s)):
  Region.wanted oper (yielded ops a.tmps)=z4G (st.get s) want:=by
 obtain⟨g,_,hS,_,_,_⟩:=hR
 unfold z8sb at hg
 rw[ho] at hg
 split at hg
 ·rename_i h1 h2;cases h2
 ·rename_i j w1 s' w2 h1 h2
  simp only[Option.some.injEq,Prod.mk.injEq] at h2
  obtain⟨rfl,rfl⟩:=h2
  simp only[Bool.and_eq_true,beq_iff_eq] at hg
  obtain⟨hj,rfl⟩:=hg
  split at hj
  ·rename_i oj hoj
   simp only[beq_iff_eq] at hj
   rcases hb with hb|hb
   ·obtain⟨hgv,hv⟩:=z7sb (hS s) hb
    have hget:a.tmps[s]? =some (.bool (asB (st.get s))):=by
     rw[Array.getD_eq_getD_getElem?] at hv
     cases hc:a.tmps[s]? with
     |none=>rw[hc] at hv;simp[undef] at hv
     |some x=>rw[hc] at hv;simp only[Option.getD_some] at hv;rw[hv]
    have hgate:z4G (st.get s) w1=(asB (st.get s)==w1):=by
     revert hb
     cases st.get s with
     |lit v=>cases v<;>simp[isB,z4G,asB]
     |_=>simp[isB]
    unfold Region.wanted
    rw[h1,hgate]
    simp only[yielded,hoj,Option.bind_some,hj,hget]
    cases asB (st.get s)<;>cases w1<;>rfl
   ·have hv:=hS s
    rw[hb] at hv
    simp only[z7j,Rep] at hv
    have hgate:z4G (st.get s) w1=false:=by rw[hb];rfl
    unfold Region.wanted
    rw[h1,hgate]
    simp only[yielded,hoj,Option.bind_some,hj]
    rw[Array.getD_eq_getD_getElem?] at hv
    cases hc:a.tmps[s]? with
    |none=>rfl
    |some x=>rw[hc] at hv;simp only[Option.getD_some] at hv;rw[hv];rfl
  ·cases hj
 ·cases hg

theorem z2Pc {op:Op} {x:AOp} (h:z1Cc K op x=true):x= .unsup∨∀c,op≠ .defer c:=by
 by_cases hu:x= .unsup
 ·exact .inl hu
 ·refine .inr ?_
  rintro c rfl
  cases x
  case callm f t as ws ns=>simp only[z1Cc,Bool.and_eq_true] at h;cases t<;>exact Bool.noConfusion (show false=true from h.2)
  case callw f t as ws ns=>simp only[z1Cc,Bool.and_eq_true] at h;cases t<;>exact Bool.noConfusion (show false=true from h.2)
  all_goals first|exact hu rfl|exact Bool.noConfusion (show false=true from h)
theorem z1od {a b:Nat} (h:b<a):Nat.ble a b=false:=by
 cases hb:Nat.ble a b with
 |false=>rfl
 |true=>exact absurd (Nat.le_of_ble_eq_true hb) (Nat.not_le_of_lt h)
theorem z1qd {a b:Nat} (h:Nat.ble a b=false):b<a:=Nat.lt_of_not_le fun h'=>by rw[Nat.ble_eq_true_of_le h'] at h;cases h
theorem z1Rb (hR:Rel K base n st a w) {i:Nat} {oper:Oper} {o:z6a} (hi:ops[i]? =some oper) (hm:z0Fb K n ops oper o=true) (hok:okA K.E o st) (hV:VOk K o.op)
  {Kn:Act→World→Prop} {Q:Exit→Act→World→Prop} (hn:∀a' w',Rel K base n (z9a K.E o st) a' w'→Kn a' w') {r:Option Nat} {m:Nat}:wpOpIn (WF r) m K.P ops Q i Kn a w:=by
 simp only[z0Fb,Bool.and_eq_true,beq_iff_eq,List.all_eq_true,decide_eq_true_eq] at hm
 obtain⟨⟨⟨hdst,hlt⟩,hgd⟩,hch⟩:=hm
 obtain⟨horg,hok⟩:=hok
 have horg1:∀s∈o.dst.toList,lk st.org s=none:=fun s hs=>horg s (by simp only[z6a.W,List.mem_append];exact .inl hs)
 have horg2:∀p∈(eff K.E st.get st.getB o.op).sl,lk st.org p.1=none:=fun p hp=>horg p.1 (by simp only[z6a.W,List.mem_append];exact .inr ((z5l K.E st.get st.getB o.op).1 p hp))
 -- the operation itself
 have main:okp K.E st.get st.getB o.op→(∀a' w',Rel K base n {st with env:=(o.dst.toList.map fun s=>(s,(eff K.E st.get st.getB o.op).val))++(eff K.E st.get st.getB o.op).sl++st.env,box:=(eff K.E st.get st.getB o.op).bx++st.box} a' w'→Kn a' w')→oper.wp K.P a w Kn Q:=fun hk hnext=>by
  have hR':=hR
  obtain⟨g,hI,hS,_,_,_⟩:=hR'
  have fin:∀v w',z0rc K base a st.get st.getB o.dst (eff K.E st.get st.getB o.op) v w'→Kn (a.put oper.dst v) w':=fun v w' hG=>by
   rw[hdst]
   exact hnext _ _ (z6rc hR hlt horg1 horg2 hG)
  have other:z5kd K oper.op o.op=true→oper.wp K.P a w Kn Q:=fun hc=>by
   obtain⟨r,v,w',hrun,hr,hG⟩:=z3fd (d:=o.dst) (o:=oper) hI hS hc hk
   unfold Oper.wp
   rw[hrun]
   rcases hr with rfl|⟨rfl,rfl⟩
   ·exact fin v w' hG
   ·exact fin _ w' hG
  cases hx:o.op with
  |call f as bs=>
   rw[hx] at hch hk fin
   exact z12c (o:=oper) hI hS hch (hV (f,false) (by simp[hx,z1A])) hk (d:=o.dst) fin
  |callv f t as bs=>
   rw[hx] at hch hk fin
   exact z9Mc (o:=oper) hI hS hch (hV (f,false) (by simp[hx,z1A])) hk (d:=o.dst) fin
  |callm f t as ws ns=>
   rw[hx] at hch hk fin
   have hch':(!Nat.ble 500000000 f&&z33a K oper.op f t as)=true:=hch
   simp only[Bool.and_eq_true,Bool.not_eq_true'] at hch'
   have hv:VB K (f,true):=hV (f,true) (by simp[hx,z1A])
   have h9:Nat.ble 999999990 f=false:=z1od (Nat.lt_trans (z1qd hch'.1) (by decide))
   simp only[VB,h9,hch'.1] at hv
   exact z8Hc (o:=oper) hI hS hch'.2 hv hk (d:=o.dst) fin
  |callw f t as ws ns=>
   rw[hx] at hch hk fin
   have hch':(!Nat.ble 400000000 f&&z33a K oper.op f t as)=true:=hch
   simp only[Bool.and_eq_true,Bool.not_eq_true'] at hch'
   have hlt:f<400000000:=z1qd hch'.1
   have hv:VB K (wNo f,true):=hV (wNo f,true) (by simp[hx,z1A])
   have h9:Nat.ble 999999990 (wNo f)=false:=z1od (by unfold wNo;omega)
   have h8:Nat.ble 500000000 (wNo f)=true:=Nat.ble_eq_true_of_le (by unfold wNo;omega)
   have h7:wNo f-500000000=f:=by unfold wNo;omega
   simp only[VB,h9,h8,h7] at hv
   exact z0Jc (o:=oper) hI hS hch'.2 hv hk (d:=o.dst) fin
  |bld k id p b x=>
   rw[hx] at hch
   exact absurd (show false=true from hch) (by decide)
  |_=>exact other (by rw[hx] at hch⊢;exact hch)
 have mainIn:okp K.E st.get st.getB o.op→(∀a' w',Rel K base n {st with env:=(o.dst.toList.map fun s=>(s,(eff K.E st.get st.getB o.op).val))++(eff K.E st.get st.getB o.op).sl++st.env,box:=(eff K.E st.get st.getB o.op).bx++st.box} a' w'→Kn a' w')→oper.wpIn (WF r) m K.P a w Kn Q:=fun hk hnext=>by
  rcases z2Pc hch with hu|hnd
  ·rw[hu] at hk;exact hk.elim
  ·exact z2Rc hnd (main hk hnext)
 unfold wpOpIn
 simp only[hi]
 cases hgo:o.guard with
 |none=>
  rw[hgo] at hok hgd
  have hw:Region.wanted oper (yielded ops a.tmps)=true:=by
   unfold z8sb at hgd
   split at hgd
   ·rename_i h1 _;unfold Region.wanted;rw[h1]
   ·rename_i h1 h2;cases h2
   ·cases hgd
  rw[if_pos hw]
  refine mainIn hok fun a' w' hr=>hn a' w' ?_
  unfold z9a
  rw[hgo]
  exact hr
 |some sw=>
  obtain⟨s,want⟩:=sw
  rw[hgo] at hok
  have hw:=z6xb (ops:=ops) hR hgd hgo hok.1
  by_cases hb:z4G (st.get s) want=true
  ·rw[hw,if_pos hb]
   refine mainIn (hok.2 hb) fun a' w' hr=>hn a' w' ?_
   unfold z9a
   rw[hgo]
   simp only[if_pos hb]
   exact hr
  ·rw[hw,if_neg hb]
   refine⟨fun f _=>z9dc r f,hn _ _ ?_⟩
   unfold z9a
   rw[hgo]
   simp only[if_neg hb]
   have hR':=hR
   obtain⟨g,hI,hS,_,_,_⟩:=hR'
   rw[hdst]
   have:=z6rc (e:={val:=z7j}) (v:=undef) (w':=w) hR hlt horg1 (by simp) ⟨g,hI,hS,by simp[Rep,z7j]⟩
   simpa using this

def z39a (K:Cx) (n:Nat) (ops:Array Oper):List Oper→List z6a→Bool
 |[],[]=>true
 |o::os,x::xs=>z0Fb K n ops o x&&z39a K n ops os xs
 |_,_=>false

theorem z7bb {ops:Array Oper}:∀{os:List Oper} {xs:List z6a},z39a K n ops os xs=true→os.length=xs.length∧∀(i:Nat) (o:Oper) (x:z6a),os[i]? =some o→xs[i]? =some x→z0Fb K n ops o x=true
 |[],[],_=>by simp
 |[],_::_,h=>by simp[z39a] at h
 |_::_,[],h=>by simp[z39a] at h
 |o::os,x::xs,h=>by
  simp only[z39a,Bool.and_eq_true] at h
  obtain⟨h1,h2⟩:=z7bb h.2
  refine⟨by simp[h1],fun i o' x' ho hx=> ?_⟩
  cases i with
  |zero=>simp at ho hx;subst ho hx;exact h.1
  |succ i=>exact h2 i o' x' (by simpa using ho) (by simpa using hx)

theorem z4ec {xs:List z6a} (hc:z39a K n ops ops.toList xs=true) (hV:∀x∈xs,VOk K x.op) {Q:Exit→Act→World→Prop} {r:Option Nat} {q:Nat}:∀(m s:Nat) (st:ASt) (a:Act) (w:World),s+m=ops.size→Rel K base n st a w→z5t K.E (xs.drop s) st→
  (∀a' w',Rel K base n (z8I K.E (xs.drop s) st) a' w'→Q .normal a' w')→wpOpsIn (WF r) q K.P ops Q (List.range' s m) a w
 |0,s,st,a,w,hs,hR,_,hn=>by
  have hl:=(z7bb hc).1
  have:xs.drop s=[]:=List.drop_eq_nil_of_le (by rw[←hl];simp;omega)
  rw[this] at hn
  exact hn a w hR
 |m+1,s,st,a,w,hs,hR,hok,hn=>by
  obtain⟨hl,hg⟩:=z7bb hc
  have hlt:s<ops.size:=by omega
  have hltx:s<xs.length:=by rw[←hl];simpa using hlt
  rw[List.drop_eq_getElem_cons hltx] at hok hn
  rw[List.range'_succ,wpOpsIn_cons]
  refine z1Rb (oper:=ops[s]) (o:=xs[s]) hR (Array.getElem?_eq_getElem hlt) (hg s _ _ (by simp[hlt]) (List.getElem?_eq_getElem hltx)) hok.1 (hV _ (List.getElem_mem _)) fun a' w' hR'=> ?_
  exact z4ec hc hV m (s+1) _ a' w' (by omega) hR' hok.2 hn

/-! ### In whatever order -/
def z6Cc (ops:Array Oper) (xs:List z6a):Bool:=
 (List.range ops.size).all fun i=>
  match ops[i]? with
  |none=>false
  |some o=>(o.after.all fun e=> !Region.binds .any e||decide (e.on<i))&&
    (List.range i).all fun p=>(o.after.toList.any fun e=>Region.binds .any e&&e.on==p)||z06 (xs.getD p default) (xs.getD i default)

theorem z3mc {xs:List z6a} (hc:z39a K n ops ops.toList xs=true) (hV:∀x∈xs,VOk K x.op) (ho:z6Cc ops xs=true) {Q:Exit→Act→World→Prop} {r:Option Nat} {q:Nat}:
  ∀(fuel:Nat) (R:List Nat) (listed:Array Bool) (st:ASt) (a:Act) (w:World),R.length≤fuel→listed.size=ops.size→R.Pairwise (· <·)→(∀i,i∈R↔i<ops.size∧listed.getD i true=false)→Rel K base n st a w→
   z5t K.E (R.map (xs.getD · default)) st→(∀a' w',Rel K base n (z8I K.E (R.map (xs.getD · default)) st) a' w'→Q .normal a' w')→wpAnyIn (WF r) q K.P .any ops Q fuel listed a w:=by
 obtain⟨hl,hg⟩:=z7bb hc
 have hord:∀i o,ops[i]? =some o→(∀e∈o.after,Region.binds .any e=true→e.on<i)∧∀p,p<i→(∃e∈o.after,Region.binds .any e=true∧e.on=p)∨z06 (xs.getD p default) (xs.getD i default)=true:=fun i o hi=>by
  have hlt:=(Array.getElem?_eq_some_iff.1 hi).1
  have h1:=List.all_eq_true.1 ho i (List.mem_range.2 hlt)
  simp only[hi,Bool.and_eq_true,Array.all_eq_true_iff_forall_mem,Bool.or_eq_true,Bool.not_eq_true',decide_eq_true_eq,List.all_eq_true,List.mem_range,List.any_eq_true,Array.mem_toList_iff,beq_iff_eq] at h1
  obtain⟨h1,h2⟩:=h1
  refine⟨fun e he hb=>(h1 e he).resolve_left (by simp[hb]),fun p hp=>(h2 p hp).imp (fun⟨e,he,hb⟩=>⟨e,he,hb⟩) id⟩
 have rdy:∀(R:List Nat) (listed:Array Bool),listed.size=ops.size→(∀i,i∈R↔i<ops.size∧listed.getD i true=false)→R.Pairwise (· <·)→Region.ready .any ops listed=[]→R=[]:=fun R listed hsz hR hp hr=>by
  cases R with
  |nil=>rfl
  |cons r R=>
   exfalso
   have h1:=(hR r).1 (by simp)
   have:r∈Region.ready .any ops listed:=by
    rw[mem_ready]
    refine⟨h1.2,ops[r]'h1.1,Array.getElem?_eq_getElem h1.1,fun e he hb=> ?_⟩
    have hlt:=(hord r _ (Array.getElem?_eq_getElem h1.1)).1 e he hb
    have hnot:e.on∉r::R:=fun hm=>by
     rcases List.mem_cons.1 hm with h|h
     ·omega
     ·have:=List.rel_of_pairwise_cons hp h;omega
    have h2:¬(listed.getD e.on true=false):=fun h=>hnot ((hR e.on).2 ⟨by omega,h⟩)
    rw[Array.getD_eq_getD_getElem?] at h2⊢
    cases hg:listed[e.on]? with
    |none=>
     exfalso
     have:=Array.getElem?_eq_none_iff.1 hg
     omega
    |some b=>rw[hg] at h2;simpa using h2
   rw[hr] at this
   cases this
 intro fuel
 induction fuel with
 |zero=>
  intro R listed st a w hlen hsz hp hR hrel hok hn
  have:R=[]:=List.eq_nil_of_length_eq_zero (by omega)
  subst this
  refine⟨?_,hn a w hrel⟩
  refine List.eq_nil_iff_forall_not_mem.2 fun i hi=> ?_
  obtain⟨h1,o,h2,_⟩:=mem_ready.1 hi
  have:=(hR i).2 ⟨(Array.getElem?_eq_some_iff.1 h2).1,h1⟩
  cases this
 |succ fuel ih=>
  intro R listed st a w hlen hsz hp hR hrel hok hn
  refine⟨fun hr=> ?_,fun i hi=> ?_⟩
  ·have:=rdy R listed hsz hR hp hr
   subst this
   exact hn a w hrel
  ·obtain⟨h1,o,h2,h3⟩:=mem_ready.1 hi
   have hilt:=(Array.getElem?_eq_some_iff.1 h2).1
   have hiR:=(hR i).2 ⟨hilt,h1⟩
   obtain⟨pre,post,rfl⟩:=List.append_of_mem hiR
   have hpre:∀p∈pre,p<i:=fun p hm=>by
    have:=(List.pairwise_append.1 hp).2.2 p hm i (by simp)
    exact this
   have hind:∀q∈pre.map (xs.getD · default),z06 q (xs.getD i default)=true:=fun q hq=>by
    obtain⟨p,hpm,rfl⟩:=List.mem_map.1 hq
    refine((hord i o h2).2 p (hpre p hpm)).resolve_left fun⟨e,he,hb,hep⟩=> ?_
    have:=h3 e he hb
    have hpl:=((hR p).1 (by simp[hpm])).2
    rw[hep,Array.getD_eq_getD_getElem?] at this
    rw[Array.getD_eq_getD_getElem?] at hpl
    cases hg:listed[p]? with
    |none=>rw[hg] at hpl;simp at hpl
    |some b=>rw[hg] at hpl this;simp at hpl this;rw[hpl] at this;cases this
   simp only[List.map_append,List.map_cons] at hok hn
   obtain⟨k1,k2,k3⟩:=z1zc _ _ st hind hok
   have hxi:xs[i]? =some (xs.getD i default):=by
    rw[List.getD,List.getElem?_eq_getElem (by rw[←hl];simpa using hilt)]
    rfl
   refine z1Rb (oper:=o) (o:=xs.getD i default) hrel h2 (hg i o _ (by simpa using h2) hxi) k1 (hV _ (z3ya hxi)) fun a' w' hR'=> ?_
   refine ih (pre++post) (listed.setIfInBounds i true) _ a' w' ?_ ?_ ?_ ?_ hR' (by rw[List.map_append];exact k2) ?_
   ·simp at hlen⊢;omega
   ·simpa using hsz
   ·rw[List.pairwise_append] at hp⊢
    refine⟨hp.1,(List.pairwise_cons.1 hp.2.1).2,fun x hx y hy=>hp.2.2 x hx y (by simp[hy])⟩
   ·intro j
    have hj:=hR j
    simp only[List.mem_append,List.mem_cons] at hj⊢
    by_cases hji:j=i
    ·subst hji
     constructor
     ·intro hm
      exfalso
      rw[List.pairwise_append] at hp
      rcases hm with hm|hm
      ·have:=hpre j hm;omega
      ·have:=(List.pairwise_cons.1 hp.2.1).1 j hm;omega
     ·rintro⟨_,hf⟩
      exfalso
      rw[Array.getD_eq_getD_getElem?,Array.getElem?_setIfInBounds] at hf
      simp[hsz,hilt] at hf
    ·rw[getD_set_ne true (fun e=>hji e.symm)]
     rw[←hj]
     constructor
     ·rintro(h|h);exact .inl h;exact .inr (.inr h)
     ·rintro(h|h|h)
      ·exact .inl h
      ·exact absurd h hji
      ·exact .inr h
   ·intro a'' w'' hR''
    rw[List.map_append] at hR''
    exact hn a'' w'' (z49c k3 hR'')

end
end Go.Abs
end
