/- Lemmas: an abstract interpreter, and what the functions compute. -/
import Derived.Test.YtigghpdomoedhaaDoorL
import Derived.Test.YtigghpdomoedhaaDoorT
set_option linter.unusedSimpArgs false
set_option linter.unusedVariables false
set_option linter.unusedSectionVars false
section
namespace Go.Abs
set_option maxRecDepth 100000
theorem z6ic (E:Env):∀ds,z2Sb.pre ds→ds.length=z3c.n∧awp E z3c.body (z2q z3c.res (z2Sb.post ds)) (z9b z3c.wr ds):=by
 rintro _ ⟨x,k,h0,hv,rfl⟩
 rw[z4nb,z5ia]
 have hv:k.ver≤2147483647:=hv
 by_cases h1:k.id<x.id
 ·by_cases h2:x.ty=k.ty
  ·by_cases h3:x.par=k.id
   ·simp(maxSteps:=1000000) (disch:=first|omega|(simp;done)|(simp;omega)) [z8a,z1a,z0a,z3c,z3j,h1,h2,h3,kT,kF,dT,dF]
   ·have b3:(x.par==k.id)=false:=beq_false_of_ne h3
    simp(maxSteps:=1000000) (disch:=first|omega|(simp;done)|(simp;omega)) [z8a,z1a,z0a,z3c,z3j,h1,h2,b3,kT,kF,dT,dF]
  ·have b2:(x.ty==k.ty)=false:=beq_false_of_ne h2
   simp(maxSteps:=1000000) (disch:=first|omega|(simp;done)|(simp;omega)) [z8a,z1a,z0a,z3c,z3j,h1,b2,kT,kF,dT,dF]
 ·simp(maxSteps:=1000000) (disch:=first|omega|(simp;done)|(simp;omega)) [z8a,z1a,z0a,z3c,z3j,h1,kT,kF,dT,dF]
set_option maxHeartbeats 4000000 in
theorem z7rb (E:Env) (h258:E.G 258=z0Fa) (h263:E.G 263=z2Sb):∀ds,z3U.pre ds→ds.length=z5g.n∧awp E z5g.body (z2q z5g.res (z3U.post ds)) (z9b z5g.wr ds):=by
 rintro _ ⟨nl,t,i,ht,rfl⟩
 rw[z3I]
 obtain⟨tk,hl,_,hk⟩:=z8q ht
 have e1:=z57 (nl:=nl) (t:=t) i tk
 have e2:=z7O nl t i
 cases hg:z80 t.keys i with
 |none=>
  rw[hg,z8va] at e2
  have hn:z1R t.keys i=none:=by rw[z1R,hg];rfl
  rw[hn,z37]
  simp(maxSteps:=1000000) (disch:=first|omega|(simp;done)|(simp;omega)) [z8a,z1a,z0a,z5g,z5u,h258,e1,e2,kT,kF,dT,dF,z8k,z1r,z6i]
  skip
 |some k=>
  rw[hg,z8va] at e2
  have hkm:=hk k (z4K hg)
  have hv:=z78a hkm.1
  have hn:z1R t.keys i=(t.keys.reverse.find? (z5ia k)).map (·.id):=by rw[z1R,hg];rfl
  rw[hn]
  simp(maxSteps:=1000000) (disch:=first|omega|(simp;done)|(simp;omega)) [z8a,z1a,z0a,z5g,z5u,h258,e1,e2,kT,kF,dT,dF,z8k,z1r,z6i]
  refine z7a fun Q0 hQ0=> ?_
  refine z4f (fun n:Nat=>⟨[(0,.agg (z0d nl t)),(1,i64 i)],[(2,.bp 2 0),(6,.bp 6 0),(8,i64 ((n:Int)-1))],[(2,some (z0d nl t)),(6,some (z3j k))]⟩) (fun n=>n) (fun n=>n≤t.keys.length∧∀m,n≤m→m<t.keys.length→z5ia k (z3g t.keys m)=false) t.keys.length (by simp) ⟨by omega,fun m h h'=>by omega⟩ fun n hn=> ?_
  obtain⟨hn,hno⟩:=hn
  cases n with
  |zero=>
   have hm:=z0oa (P:=z5ia k) (l:=t.keys) (fun m hm=>hno m (by omega) hm)
   simp(maxSteps:=1000000) (disch:=first|omega|(simp;done)|(simp;omega)) [z8a,z1a,z0a,z4o,z8B,kT,kF,dT,dF,hQ0,hm,z37]
   skip
  |succ n=>
   have c0:((n+1:Nat):Int)-1=n:=by omega
   have ka:=z2F (l:=t.keys) (i:=n) (by omega)
   have k0:=z0Oa (l:=t.keys) (i:=n) (by omega)
   have sp:=z8Gb (z3g t.keys n) (k:=k) (by omega) hv.2
   cases hs:z5ia k (z3g t.keys n) with
   |true=>
    have hm:=z8Aa (P:=z5ia k) (l:=t.keys) (n:=n) (by omega) (fun m h1 h2=>hno m (by omega) h2) hs
    rw[hm] at hQ0
    generalize z3g t.keys n=x at*
    simp(maxSteps:=1000000) (disch:=first|omega|(simp;done)|(simp;omega)) [z8a,z1a,z0a,z4o,z1u,c0,kT,kF,dT,dF,ka,k0,h263,sp,hs,hQ0,z37]
    omega
   |false=>
    have hno':∀m,n≤m→m<t.keys.length→z5ia k (z3g t.keys m)=false:=fun m h1 h2=>by
     rcases Nat.lt_or_eq_of_le h1 with e|e
     ·exact hno m (by omega) h2
     ·rw[←e];exact hs
    generalize z3g t.keys n=x at*
    simp(maxSteps:=1000000) (disch:=first|omega|(simp;done)|(simp;omega)) [z8a,z1a,z0a,z4o,z1u,c0,kT,kF,dT,dF,ka,k0,h263,sp,hs]
    exact⟨by omega,by omega,n,by omega,⟨by omega,hno'⟩,rfl⟩
end Go.Abs
end

section
namespace Go.Abs
set_option maxRecDepth 100000
def bkM:CM:=⟨[],[1],fun ds=>∃(nl:Option Bool) (l:List z2d),z90a l∧ds=[z84 nl l],fun _=> .fn 232 [] [.bp 1 0],fun ds _=>[nth ds 0]⟩
@[simp] theorem bkM_bx:bkM.bx=[]:=rfl
@[simp] theorem bkM_nb:bkM.nb=[1]:=rfl
@[simp] theorem z0Bc (ds:List z2a):bkM.post ds= .fn 232 [] [.bp 1 0]:=rfl
@[simp] theorem z7Jc (d:z2a) (j:Nat):bkM.out [d] j=[d]:=rfl
theorem z2Nb {nl:Option Bool} {l:List z2d} (hl:z90a l):bkM.pre [.sl .plain nl l.length (z1k l)]=True:=eq_true ⟨nl,l,hl,rfl⟩
set_option maxHeartbeats 4000000 in
theorem z4bc (E:Env):∀ds p,bkM.pre ds→ds.length=z9l.n∧awp E z9l.body (z3Ab z9l.res bkM p ds) (z6fa bkM.bx p ds):=by
 rintro _ p ⟨nl,l,hn,rfl⟩
 simp(maxSteps:=1000000) (disch:=first|omega|(simp;done)|(simp;omega)) [z9l,z6fa,z3Ab,z84]
theorem z2Ca (E:Env) (l:Nat) (el:Nat→Option (List z2a)) (i:Nat) (a b:z8G) (Q:IQ) (p:Nat×Bool) (s:ASt):z5O E l el (.seq (.block i a) b) Q p s=z5O E l el (.block i a) (z1ua (fun p st=>z5O E l el b Q p st) Q) p s:=rfl
theorem z60a {E:Env} {l:Nat} {el:Nat→Option (List z2a)} {b:z8G} {Q:IQ} {p:Nat×Bool} {s:ASt} (I:Nat×Bool→ASt→Prop) (h0:I p s)
  (h:∀p s,I p s→∀Q',(∀p' s',I p' s'→p.2=false→(p'=(p.1+1,false)∨p'=(p.1,true))→Q' .normal p' s')→(∀i p' s',Q' (.exit i) p' s'=Q (.exit i) p' s')→(∀p' s',Q' .ret p' s'=Q .ret p' s')→z5O E l el b Q' p s):z5O E l el (.loop b) Q p s:=
 ⟨I,h0,fun p s hi=>h p s hi _ (fun p' s' h1 h2 h3=>⟨h1,h2,h3⟩) (fun _ _ _=>rfl) (fun _ _=>rfl)⟩
def gEk (d:z2a):List z2d:=match d with| .ep [.sl _ _ n cs]=>z7ka n cs|_=>[]
def bkI:ItC:=⟨fun x y=>x=[]∧∃(nl:Option Bool) (l:List z2d),z90a l∧y=[.ep [z84 nl l]],fun _ y i=>if i<(gEk (nth y 0)).length then some [i64 (((gEk (nth y 0)).length:Int)-1-i),.agg (z3j (z3g (gEk (nth y 0)) ((gEk (nth y 0)).length-1-i)))] else none,[]⟩
@[simp] theorem bkI_lv:bkI.lv=[]:=rfl
theorem z0Bb {nl:Option Bool} {l:List z2d} (i:Nat):bkI.el [] [.ep [.sl .plain nl l.length (z1k l)]] i=if i<l.length then some [i64 ((l.length:Int)-1-i),.agg (z3j (z3g l (l.length-1-i)))] else none:=by
 simp only[bkI]
 rw[show gEk (nth [z2a.ep [.sl .plain nl l.length (z1k l)]] 0)=z7ka l.length (z1k l) from rfl,z52]
theorem z9Gb {nl:Option Bool} {l:List z2d} (hl:z90a l):bkI.pre [] [.ep [.sl .plain nl l.length (z1k l)]]:=⟨rfl,nl,l,hl,rfl⟩
set_option maxHeartbeats 4000000 in
theorem z5ic (E:Env):∀x y l,bkI.pre x y→x.length=z4k.nx∧y.length=z4k.ny∧z5O E l (bkI.el x y) z4k.body (itQ (bkI.el x y)) (0,false) (z9ab l [] x y):=by
 rintro _ _ ln ⟨rfl,nl,l,hn,rfl⟩
 have hn:l.length≤100000000:=hn
 have hel:∀i,bkI.el [] [.ep [z84 nl l]] i=if i<l.length then some [i64 ((l.length:Int)-1-i),.agg (z3j (z3g l (l.length-1-i)))] else none:=z0Bb
 refine⟨rfl,rfl,?_⟩
 generalize hQ:itQ (bkI.el [] [.ep [z84 nl l]])=Q
 have hdone:∀p st',p.2=true→Q .normal p st':=fun p st' h=>by rw[←hQ];exact .inl h
 have hend:∀p st',l.length≤p.1→Q .normal p st':=fun p st' h=>by rw[←hQ];exact .inr (by rw[hel,if_neg (by omega)])
 have hQx:∀p st',p.2=true→Q .ret p st':=fun p st' h=>by rw[←hQ];exact .inl h
 generalize bkI.el [] [.ep [z84 nl l]]=el at hel
 unfold z84
 simp(maxSteps:=1000000) (disch:=first|omega|(simp;done)|(simp;omega)) [z8a,z1a,z0a,z4k,z4C,z3C,z0qb]
 refine z3Ua fun Q1 hQ1=> ?_
 refine z60a (fun p st'=>p.2=false∧p.1≤l.length∧st'=⟨[(0,z2a.lit (Value.func (Fn.yield ln) #[] #[])),(1,.ep [.sl .plain nl l.length (z1k l)])],[(3,i64 ((l.length:Int)-1-p.1))],[]⟩) ⟨rfl,Nat.zero_le _,by simp⟩ fun p st' ⟨hp,hk,hst⟩ Q2 h2 hx hr=> ?_
 obtain⟨i,b⟩:=p
 subst hst
 simp only at hp hk
 subst hp
 by_cases h:i<l.length
 ·have hlt:(0:Int)≤(l.length:Int)-1-i:=by omega
  have hat:=z2F (show l.length-1-i<l.length by omega)
  have e1:((l.length:Int)-1-i).toNat=l.length-1-i:=by omega
  simp(maxSteps:=1000000) (disch:=first|omega|(simp;done)|(simp;omega)) [z8a,z1a,z0a,z4u,z3u,kT,kF,dT,dF,hlt,z2Ca]
  simp(maxSteps:=1000000) (disch:=first|omega|(simp;done)|(simp;omega)) [z8a,z1a,z0a,z6C,e1,hat,z7B,z7C,hel,or_imp,forall_and,and_imp,forall_eq,z2Ca]
  refine⟨⟨by omega,by omega⟩,by omega,h,?_,?_⟩
  ·simp(maxSteps:=1000000) (disch:=first|omega|(simp;done)|(simp;omega)) [z8a,z1a,z0a,kT,kF]
   show Q2 .ret (i,true) _
   rw[hr,hQ1]
   exact hQx (i,true) _ rfl
  ·simp(maxSteps:=1000000) (disch:=first|omega|(simp;done)|(simp;omega)) [z8a,z1a,z0a,kT,kF]
   exact h2 (i+1,false) _ ⟨rfl,by show i+1≤l.length;omega,by simp;omega⟩ rfl (.inl rfl)
 ·have hlt:¬(0:Int)≤(l.length:Int)-1-i:=by omega
  simp(maxSteps:=1000000) (disch:=first|omega|(simp;done)|(simp;omega)) [z8a,z1a,z0a,z4u,z3u,kT,kF,dT,dF,hlt,hx,hQ1]
  exact hend _ _ (by show l.length≤i;omega)
end Go.Abs
end

section
namespace Go.Abs
set_option maxRecDepth 100000
set_option maxHeartbeats 8000000 in
theorem z8ic (E:Env) (hI232:E.I 232=bkI) (h231:E.M 231=bkM) {nl:Option Bool} {t:z2k} {i:Int} {k:z2d} (ht:z9pa t) (hg:z80 t.keys i=some k) {Q0:z4m→ASt→Prop}
  (hQ0:Q0=z2q [.cell 4 none 4,.cell 5 none 5] (z37 (z1R t.keys i))):
  awp E z7J Q0 ⟨[(0,.agg (z0d nl t)),(1,i64 i)],[(2,.bp 2 0),(3,.bp 3 0),(4,.bp 4 0),(5,.bp 5 0),(6,.bp 6 0)],[(2,some (z0d nl t)),(3,some [i64 i]),(4,some [i64 0]),(5,some [bo false]),(6,some (z3j k))]⟩:=by
 obtain⟨tk,hl,_,hk⟩:=z8q ht
 have hkm:=hk k (z4K hg)
 have hv:=z78a hkm.1
 have hv2:k.ver≤2147483647:=hv.2
 have hid:=z1va hg
 have hn:z1R t.keys i=(t.keys.reverse.find? (z5ia k)).map (·.id):=by rw[z1R,hg];rfl
 rw[hn] at hQ0
 have b1:=z2Nb (nl:=nl) tk.2
 unfold z7J
 simp(maxSteps:=1000000) (disch:=first|omega|(simp;done)|(simp;omega)) [z8a,z1a,z0a,h231,b1]
 refine z7a fun Q1 hQ1=> ?_
 have hel:=fun j=>z0Bb (nl:=nl) (l:=t.keys) j
 refine z9Xa [] [.ep [.sl .plain nl t.keys.length (z1k t.keys)]] (by simp) (by simp) (by rw[hI232];rfl) (by rw[hI232];exact z9Gb tk.2) (by simp) t.keys.length (fun j bx=>(j≤t.keys.length∧∀m,t.keys.length-j≤m→m<t.keys.length→z5ia k (z3g t.keys m)=false)∧bx=[(2,some (z0d nl t)),(3,some [i64 i]),(4,some [i64 0]),(5,some [bo false]),(6,some (z3j k))]) ⟨⟨Nat.zero_le _,fun m h h'=>by omega⟩,rfl⟩ (fun j bx h=>h.1.1) (fun j bx h he=> ?_) (fun j bx xs hi he=> ?_)
 ·rw[hI232,hel] at he
  obtain⟨⟨h1,h2⟩,rfl⟩:=h
  split at he
  ·cases he
  ·have hm:=z0oa (P:=z5ia k) (l:=t.keys) (fun m hm=>h2 m (by omega) hm)
   rw[hm] at hQ0
   simp(maxSteps:=1000000) (disch:=first|omega|(simp;done)|(simp;omega)) [z8a,z1a,z0a,z8r,hQ1,z7T,hQ0,z37]
   skip
 ·rw[hI232,hel] at he
  obtain⟨⟨h1,h2⟩,rfl⟩:=hi
  split at he
  ·rename_i hlt
   have he':=(Option.some.inj he).symm
   subst he'
   refine⟨rfl,by simp,fun V=> ?_⟩
   cases hs:z5ia k (z3g t.keys (t.keys.length-1-j)) with
   |true=>
    have hm:=z8Aa (P:=z5ia k) (l:=t.keys) (n:=t.keys.length-1-j) (by omega) (fun m h3 h4=>h2 m (by omega) h4) hs
    rw[hm] at hQ0
    generalize z3g t.keys (t.keys.length-1-j)=x at*
    simp only[z5ia,Bool.and_eq_true,decide_eq_true_eq,beq_iff_eq] at hs
    obtain⟨⟨⟨s1,s2⟩,s3⟩,s4⟩:=hs
    rw[hid] at s1 s3
    simp(maxSteps:=1000000) (disch:=first|omega|(simp;done)|(simp;omega)) [z8a,z1a,z0a,z8ka,z8r,z5o,z7o,z2Ga,z35,z8k,z1r,z6i,kT,kF,dT,dF,s1,s2,s3,s4,hQ1,hQ0,z37]
    skip
   |false=>
    have h2':∀m,t.keys.length-(j+1)≤m→m<t.keys.length→z5ia k (z3g t.keys m)=false:=fun m h3 h4=>by
     rcases Nat.lt_or_ge m (t.keys.length-j) with e|e
     ·rw[show m=t.keys.length-1-j by omega];exact hs
     ·exact h2 m e h4
    have fin:(j+1≤t.keys.length∧∀m,t.keys.length≤m+(j+1)→m<t.keys.length→z5ia k (z3g t.keys m)=false):=⟨by omega,fun m h3 h4=>h2' m (by omega) h4⟩
    generalize z3g t.keys (t.keys.length-1-j)=x at*
    simp only[z5ia,hid] at hs
    by_cases s1:i<x.id
    ·by_cases s2:x.ty=k.ty
     ·by_cases s3:x.par=i
      ·have s4:(x.ver==k.ver+1)=false:=by simpa[s1,s2,s3] using hs
       simp(maxSteps:=1000000) (disch:=first|omega|(simp;done)|(simp;omega)) [z8a,z1a,z0a,z8ka,z8r,z5o,z7o,z2Ga,z35,z8k,z1r,z6i,kT,kF,dT,dF,s1,s2,s3,s4]
       exact fin
      ·have b3:(x.par==i)=false:=beq_false_of_ne s3
       simp(maxSteps:=1000000) (disch:=first|omega|(simp;done)|(simp;omega)) [z8a,z1a,z0a,z8ka,z8r,z5o,z7o,z2Ga,z35,z8k,z1r,z6i,kT,kF,dT,dF,s1,s2,b3]
       exact fin
     ·have b2:(x.ty==k.ty)=false:=beq_false_of_ne s2
      simp(maxSteps:=1000000) (disch:=first|omega|(simp;done)|(simp;omega)) [z8a,z1a,z0a,z8ka,z8r,z5o,z7o,z2Ga,z35,z8k,z1r,z6i,kT,kF,dT,dF,s1,b2]
      exact fin
    ·simp(maxSteps:=1000000) (disch:=first|omega|(simp;done)|(simp;omega)) [z8a,z1a,z0a,z8ka,z8r,z5o,z7o,z2Ga,z35,z8k,z1r,z6i,kT,kF,dT,dF,s1]
     exact fin
  ·cases he
set_option maxHeartbeats 4000000 in
theorem z3Wb (E:Env) (h230:E.G 230=z0Fa) (hI232:E.I 232=bkI) (h231:E.M 231=bkM):∀ds,z3U.pre ds→ds.length=z2m.n∧awp E z2m.body (z2q z2m.res (z3U.post ds)) (z9b z2m.wr ds):=by
 rintro _ ⟨nl,t,i,ht,rfl⟩
 rw[z3I]
 obtain⟨tk,hl,_,hk⟩:=z8q ht
 have e1:=z57 (nl:=nl) (t:=t) i tk
 have e2:=z7O nl t i
 cases hg:z80 t.keys i with
 |none=>
  rw[hg,z8va] at e2
  have hn:z1R t.keys i=none:=by rw[z1R,hg];rfl
  rw[hn,z37]
  simp(maxSteps:=1000000) (disch:=first|omega|(simp;done)|(simp;omega)) [z8a,z1a,z0a,z2m,h230,e1,e2,kT,kF,dT,dF,z8k,z1r,z6i]
  skip
 |some k=>
  rw[hg,z8va] at e2
  have nw:=z8ic E hI232 h231 (nl:=nl) ht hg rfl
  simp(maxSteps:=1000000) (disch:=first|omega|(simp;done)|(simp;omega)) [z8a,z1a,z0a,z2m,h230,e1,e2,kT,kF,dT,dF,z8k,z1r,z6i]
  exact nw
end Go.Abs
end

section
namespace Go.Abs
set_option maxRecDepth 100000
theorem z8oa (l:List z2d):∀(j:Nat) (i c:Int),(z7z l i)[j]? =some c→(z7z l i)[j+1]? =z1R l c
 |j,i,c,h=>by
  cases hn:z1R l i with
  |none=>
   rw[z6Q hn] at h⊢
   cases j with
   |zero=>simp at h;subst h;simp[hn]
   |succ j=>simp at h
  |some k=>
   rw[z6R hn] at h⊢
   cases j with
   |zero=>
    simp at h
    subst h
    rw[hn]
    cases hk:z1R l k with
    |none=>rw[z6Q hk];rfl
    |some m=>rw[z6R hk];rfl
   |succ j=>
    rw[List.getElem?_cons_succ] at h⊢
    exact z8oa l j k c h
termination_by j => j
theorem z5Ma (l:List z2d) (i:Int):(z7z l i)[0]? =some i:=by
 cases hn:z1R l i with
 |none=>rw[z6Q hn];rfl
 |some k=>rw[z6R hn];rfl
def lnM:CM:=⟨[],[3],fun ds=>∃(nl:Option Bool) (t:z2k) (i:Int),z9pa t∧ds=[.agg (z0d nl t),i64 i],fun ds=> .fn 250 [] [.bp 3 0,.ep (gCs (nth ds 0))],fun ds _=>[nth ds 1]⟩
@[simp] theorem lnM_bx:lnM.bx=[]:=rfl
@[simp] theorem lnM_nb:lnM.nb=[3]:=rfl
@[simp] theorem z6Bc (nl:Option Bool) (t:z2k) (x:z2a):lnM.post [.agg (z0d nl t),x]= .fn 250 [] [.bp 3 0,.ep (z0d nl t)]:=rfl
@[simp] theorem z2Mc (x y:z2a) (j:Nat):lnM.out [x,y] j=[y]:=rfl
theorem z3Pb {nl:Option Bool} {t:z2k} (i:Int) (h:z9pa t):lnM.pre [.agg (z0d nl t),i64 i]=True:=eq_true ⟨nl,t,i,h,rfl⟩
set_option maxHeartbeats 4000000 in
theorem z0rc (E:Env):∀ds p,lnM.pre ds→ds.length=z1t.n∧awp E z1t.body (z3Ab z1t.res lnM p ds) (z6fa lnM.bx p ds):=by
 rintro _ p ⟨nl,t,i,ht,rfl⟩
 simp(maxSteps:=1000000) (disch:=first|omega|(simp;done)|(simp;omega)) [z1t,z6fa,z3Ab]
 rfl
theorem z0pa (E:Env) (l:Nat) (el:Nat→Option (List z2a)) (keep:List Nat) (gs:List z2y) (xs:List z7i) (d:Option Nat) (y:Nat) (as:List Arg) (zs:List z7i) (sw:Nat×Bool) (Q:IQ) (p:Nat×Bool) (s:ASt):
  z5O E l el (.yield keep gs xs d y as zs (some sw)) Q p s=((∀s'∈d.toList,lk s.org s'=none)∧z1Hb E (fun st0=>isB ((z7ca st0).get sw.1)∧(asB ((z7ca st0).get sw.1)=sw.2→p.2=false∧el p.1=some (as.map (arg E (z7ca st0).get))∧z1b (as.map (arg E (z7ca st0).get))=true∧(z7ca st0).get y= .lit (.func (.yield l) #[] #[])∧(∀q∈(z7ca st0).box,∀cs,q.2=some cs→cs.all yOk=true∧q.1<1000000)∧
   ∀b:Bool,z70a E keep gs (fun e s=>Q e (if b then(p.1+1,false) else(p.1,true)) s) zs (z82a d b (z7ca st0)))∧(asB ((z7ca st0).get sw.1)=(!sw.2)→z70a E keep gs (fun e s=>Q e p s) zs (z3Nb d (z7ca st0)))) xs s):=by
 obtain⟨s1,w1⟩:=sw
 simp only[z8Fa,z8pa,z5O,ifG]
 apply propext
 constructor
 ·rintro⟨h1,h2,h3⟩
  exact⟨h2,h1,h3⟩
 ·rintro⟨h2,h1,h3⟩
  exact⟨h1,h2,h3⟩
theorem z3za (E:Env) (l:Nat) (el:Nat→Option (List z2a)) (keep:List Nat) (gs:List z2y) (xs:List z7i) (d:Option Nat) (y:Nat) (as:List Arg) (zs:List z7i) (gd:Option (Nat×Bool)) (b:z8G) (Q:IQ) (p:Nat×Bool) (s:ASt):
  z5O E l el (.seq (.yield keep gs xs d y as zs gd) b) Q p s=z5O E l el (.yield keep gs xs d y as zs gd) (z1ua (fun p st=>z5O E l el b Q p st) Q) p s:=rfl
theorem z9Sa (E:Env) (l:Nat) (el:Nat→Option (List z2a)) (a b c:z8G) (Q:IQ) (p:Nat×Bool) (s:ASt):
  z5O E l el (.seq (.seq a b) c) Q p s=z5O E l el (.seq a b) (z1ua (fun p st=>z5O E l el c Q p st) Q) p s:=rfl
theorem z4ia (d:Nat) (o e:List (Nat×z2a)) (bx:List (Nat×Option (List z2a))):z3Nb (some d) ⟨o,e,bx⟩=⟨o,(d,z5T)::e,bx⟩:=rfl
def gLn (y:List z2a):List Int:=z7z (z7D (match nth y 1 with| .ep cs=>cs|_=>[])).keys (asI (match nth y 0 with| .ep cs=>hdA cs|_=> .undef))
def lnI:ItC:=⟨fun x y=>x=[]∧∃(nl:Option Bool) (t:z2k) (i:Int),z9pa t∧y=[.ep [i64 i],.ep (z0d nl t)],fun _ y j=>((gLn y)[j]?).map fun c=>[i64 c],[0]⟩
theorem z9za:lnI.lv=[0]:=rfl
theorem z8Bb {nl:Option Bool} {t:z2k} (i:Int) (j:Nat):lnI.el [] [.ep [i64 i],.ep (z0d nl t)] j=((z7z t.keys i)[j]?).map fun c=>[i64 c]:=by
 have:gLn [.ep [i64 i],.ep (z0d nl t)]=z7z t.keys i:=by
  show z7z (z7D (z0d nl t)).keys (asI (i64 i))=_
  rw[z0k];rfl
 simp only[lnI,this]
theorem z6Ub {nl:Option Bool} {t:z2k} (i:Int) (h:z9pa t):lnI.pre [] [.ep [i64 i],.ep (z0d nl t)]:=⟨rfl,nl,t,i,h,rfl⟩
set_option maxHeartbeats 4000000 in
theorem z2jc (E:Env) (h233:E.G 233=z3U):∀x y l,lnI.pre x y→x.length=z1o.nx∧y.length=z1o.ny∧z5O E l (lnI.el x y) z1o.body (itQ (lnI.el x y)) (0,false) (z9ab l [0] x y):=by
 rintro _ _ ln ⟨rfl,nl,t,i,ht,rfl⟩
 have hel:∀j,lnI.el [] [.ep [i64 i],.ep (z0d nl t)] j=((z7z t.keys i)[j]?).map fun c=>[i64 c]:=fun j=>z8Bb i j
 refine⟨rfl,rfl,?_⟩
 generalize hQ:itQ (lnI.el [] [.ep [i64 i],.ep (z0d nl t)])=Q
 have hdone:∀p st',p.2=true→Q .normal p st':=fun p st' h=>by rw[←hQ];exact .inl h
 have hend:∀p st',(z7z t.keys i)[p.1]? =none→Q .normal p st':=fun p st' h=>by rw[←hQ];exact .inr (by rw[hel,h];rfl)
 generalize lnI.el [] [.ep [i64 i],.ep (z0d nl t)]=el at hel
 have stp:=fun j c h=>z8oa t.keys j i c h
 have l0:=z5Ma t.keys i
 have hst0:z9ab ln [0] [] [.ep [i64 i],.ep (z0d nl t)]=⟨[(0,z2a.lit (Value.func (Fn.yield ln) #[] #[])),(2,.ep (z0d nl t))],[(1,.bp 1 0)],[(1,some [i64 i])]⟩:=rfl
 rw[hst0]
 generalize z7z t.keys i=L at*
 simp(maxSteps:=1000000) (disch:=first|omega|(simp;done)|(simp;omega)) [z8a,z1a,z0a,z1o,z8N]
 refine z3Ua fun Q1 hQ1=> ?_
 refine z1qb (fun p st'=>p.2=false∧∃(cur:Int) (is:Bool),(is=true→L[p.1]? =some cur)∧(is=false→L[p.1]? =none)∧st'=⟨[(0,z2a.lit (Value.func (Fn.yield ln) #[] #[])),(2,.ep (z0d nl t))],[(1,.bp 1 0),(4,bo is)],[(1,some [i64 cur])]⟩) ⟨rfl,i,true,fun _=>l0,fun h=>(by cases h),rfl⟩ fun p st' hI Q2 h2 hx=> ?_
 obtain⟨hp,cur,is,hi1,hi2,rfl⟩:=hI
 obtain⟨j,b⟩:=p
 simp only at hp hi1 hi2
 subst hp
 cases is with
 |true=>
  have hc:=hi1 rfl
  have hs:=stp j cur hc
  have hej:el j=some [i64 cur]:=by rw[hel,hc];rfl
  rw[z0B,z9Sa,z3za,z0pa]
  have pre:=z1Z (nl:=nl) cur ht
  have post:=z3I nl t cur
  cases hn:z1R t.keys cur with
  |none=>
   rw[hn] at hs post
   simp(maxSteps:=1000000) (disch:=first|omega|(simp;done)|(simp;omega)) [z8a,z1a,z0a,z8u,z9u,z6u,z7u,kT,kF,hej,hx,hQ1,h233,pre,post,z37,hdone,z4ia]
   exact⟨fun a b h=>(by rcases h with⟨h,_⟩|⟨h,_⟩<;>exact h),h2 _ _ ⟨rfl,0,false,fun h=>(by cases h),fun _=>hs,rfl⟩ rfl (.inl rfl)⟩
  |some m=>
   rw[hn] at hs post
   simp(maxSteps:=1000000) (disch:=first|omega|(simp;done)|(simp;omega)) [z8a,z1a,z0a,z8u,z9u,z6u,z7u,kT,kF,hej,hx,hQ1,h233,pre,post,z37,hdone,z4ia]
   exact⟨fun a b h=>(by rcases h with⟨h,_⟩|⟨h,_⟩<;>exact h),h2 _ _ ⟨rfl,m,true,fun _=>hs,fun h=>(by cases h),rfl⟩ rfl (.inl rfl)⟩
 |false=>
  have hc:=hi2 rfl
  rw[z0B,z9Sa,z3za,z0pa]
  simp(maxSteps:=1000000) (disch:=first|omega|(simp;done)|(simp;omega)) [z8a,z1a,z0a,z8u,z9u,z6u,z7u,kT,kF,hx,hQ1,z4ia]
  exact hend _ _ hc
end Go.Abs
end

section
namespace Go.Abs
set_option maxRecDepth 100000
def z6l (l:List Int):List z2a:=l.map fun z=>i64 z
@[simp] theorem z0cc (l:List Int):(z6l l).length=l.length:=by simp[z6l]
@[simp] theorem z7ic:z6l []=[]:=rfl
theorem z9K (l:List Int) (z:Int):z6l l++[i64 z]=z6l (l++[z]):=by simp[z6l]
def z8Oa (l:List Int):z2a:= .sl .plain none l.length (z6l l)
theorem z4fa (l:List Int):z2o (z8Oa l)=[]:=rfl
theorem z0ra (m:List (Nat×Nat)) (l:List Int):ren m (z8Oa l)=z8Oa l:=rfl
theorem z7Na (l:List Int):dem (z8Oa l)=z8Oa l:=rfl
def gSeq (d:z2a) (cs:List z2a):List Int:=match d with| .fn _ _ [_,.ep t]=>z7z (z7D t).keys (asI (hdA cs))|_=>[]
def z1Va:CW:=⟨[1],[10],[],fun ds bs=>∃(nl:Option Bool) (t:z2k) (i:Int),z9pa t∧ds=[.sl .plain (some true) 0 [],.fn 250 [] [.bp 10 0,.ep (z0d nl t)]]∧bs 10=[i64 i],fun ds bs=>z8Oa (gSeq (nth ds 1) (bs 10)),fun _ _ _=>[]⟩
@[simp] theorem z6nc:z1Va.hold=[1]:=rfl
@[simp] theorem z6Lc:z1Va.bx=[10]:=rfl
@[simp] theorem z3Ec:z1Va.nb=[]:=rfl
theorem z1ya {nl:Option Bool} {t:z2k} {i:Int} {x:z2a} {bs:Nat→List z2a} (h:bs 10=[i64 i]):z1Va.post [x,.fn 250 [] [.bp 10 0,.ep (z0d nl t)]] bs=z8Oa (z7z t.keys i):=by
 show z8Oa (z7z (z7D (z0d nl t)).keys (asI (hdA (bs 10))))=_
 rw[z0k,h];rfl
@[simp] theorem z3uc (ds:List z2a) (bs:Nat→List z2a) (j:Nat):z1Va.out ds bs j=[]:=rfl
theorem z9Da (l:List z2d):∀(n:Nat) (i:Int),z8sb l i≤n→(z7z l i).length≤n+1
 |n,i,h=>by
  cases hn:z1R l i with
  |none=>rw[z6Q hn];simp
  |some j=>
   rw[z6R hn,List.length_cons]
   have:=z1hb hn
   cases n with
   |zero=>omega
   |succ n=>have:=z9Da l n j (by omega);omega
theorem z4Ta (l:List z2d) (i:Int):(z7z l i).length≤l.length+1:=z9Da l _ i (List.length_filter_le _ _)
theorem z8Pc (id:Nat) (y:List z2a):z23 [0] (.bp id 0::y)=[id]:=rfl
set_option maxHeartbeats 8000000 in
theorem z9dc (E:Env) (hI250:E.I 250=lnI):∀ds bs p,z1Va.pre ds bs→ds.length=z5j.n∧awp E z5j.body (z1xb z5j.res z1Va p ds bs) (z1fa z1Va p ds bs):=by
 rintro _ bs p ⟨nl,t,i,ht,rfl,hb0⟩
 have post:=z1ya (nl:=nl) (t:=t) (i:=i) (x:= .sl .plain (some true) 0 []) hb0
 generalize hp:p 1=p1
 have hle:=z4Ta t.keys i
 have htk:=(z8q ht).2.1
 have hL:=z5Ma t.keys i
 have hel:∀j,lnI.el [] [.ep [i64 i],.ep (z0d nl t)] j=((z7z t.keys i)[j]?).map fun c=>[i64 c]:=fun j=>z8Bb i j
 simp(maxSteps:=1000000) (disch:=first|omega|(simp;done)|(simp;omega)) [z8a,z1a,z0a,z5j,z1fa,z4Cb,hb0,hp]
 generalize hQ:z1xb [z5Xa.t 4] z1Va p [z2a.sl z33.plain (some true) 0 [],z2a.fn 250 [] [z2a.bp 10 0,z2a.ep (z0d nl t)]] bs=Q0
 have hst:∀(s:ASt) (l:List Int),s=⟨[(1,.lit p1)],[(1,.fn 250 [] [.bp 10 0,.ep (z0d nl t)]),(4,z8Oa l)],[(2,some [.sl (.own 1) none l.length (z6l l)]),(10,some [])]⟩→l=z7z t.keys i→Q0 .ret s:=by
  rintro s l rfl rfl
  rw[←hQ]
  simp(maxSteps:=1000000) (disch:=first|omega|(simp;done)|(simp;omega)) [z8a,z1a,z0a,z1xb,post,hp,z8Oa]
  skip
 have hpre:=z6Ub (nl:=nl) i ht
 generalize hLL:z7z t.keys i=L at*
 show awp E (.range _ _ _ _ _ _) _ _
 refine⟨[],[.bp 10 0,.ep (z0d nl t)],rfl,?_,?_,?_,L.length,fun j bx=>j≤L.length∧bx=[(2,some [.sl (.own 1) none j (z6l (L.take j))])],?_,fun j bx h=>h.1,fun j bx h he=> ?_,fun j bx xs h he=> ?_⟩
 ·rw[hI250,z9za]
  refine⟨by show z4h [.ep [i64 i],.ep (z0d nl t)]=true;simp[z4h],?_⟩
  simp[z8Pc,z46,z1b,z2b,z2o,z0d]
 ·rw[hI250,z9za]
  exact hpre
 ·simp
 ·rw[hI250,z9za]
  exact⟨by omega,rfl⟩
 ·rw[hI250,z9za] at*
  obtain⟨h1,rfl⟩:=h
  have he':Option.map (fun c=>[i64 c]) L[j]? =none:=(hel j).symm.trans he
  have hj:L.length≤j:=by
   rw[Option.map_eq_none_iff,List.getElem?_eq_none_iff] at he';exact he'
  have hj':j=L.length:=by omega
  subst hj'
  simp(maxSteps:=1000000) (disch:=first|omega|(simp;done)|(simp;omega)) [z8a,z1a,z0a,z4Ja,z8Pc,z8r,bkB,z4I]
  refine hst _ _ ?_ hLL
  rw[hLL];rfl
 ·rw[hI250,z9za] at*
  obtain⟨h1,rfl⟩:=h
  have he':Option.map (fun c=>[i64 c]) L[j]? =some xs:=(hel j).symm.trans he
  cases hc:L[j]? with
  |none=>rw[hc] at he';cases he'
  |some c=>
   rw[hc] at he'
   cases he'
   refine⟨rfl,rfl,fun V=> ?_⟩
   simp(maxSteps:=1000000) (disch:=first|omega|(simp;done)|(simp;omega)) [z8a,z1a,z0a,z46,z8Pc,z8ka,z8r,z7I,z6F,z2Ga,z35]
   have hjl:=(List.getElem?_eq_some_iff.1 hc).1
   refine⟨by omega,by omega,?_⟩
   rw[z9K,List.take_add_one,hc];rfl
def z80a:CW:=⟨[0],[10],[],fun ds bs=>∃(nl:Option Bool) (t:z2k) (i:Int),z9pa t∧ds=[.fn 250 [] [.bp 10 0,.ep (z0d nl t)]]∧bs 10=[i64 i],fun ds bs=>z8Oa (gSeq (nth ds 0) (bs 10)),fun _ _ _=>[]⟩
@[simp] theorem z8bc:z80a.hold=[0]:=rfl
@[simp] theorem z3Hc:z80a.bx=[10]:=rfl
@[simp] theorem z5Hc:z80a.nb=[]:=rfl
theorem z4xa {nl:Option Bool} {t:z2k} {i:Int} {bs:Nat→List z2a} (h:bs 10=[i64 i]):z80a.post [.fn 250 [] [.bp 10 0,.ep (z0d nl t)]] bs=z8Oa (z7z t.keys i):=by
 show z8Oa (z7z (z7D (z0d nl t)).keys (asI (hdA (bs 10))))=_
 rw[z0k,h];rfl
@[simp] theorem z8Cc (ds:List z2a) (bs:Nat→List z2a) (j:Nat):z80a.out ds bs j=[]:=rfl
theorem z8Wb {nl:Option Bool} {t:z2k} {i:Int} {bs:Nat→List z2a} (ht:z9pa t) (h:bs 10=[i64 i]):z1Va.pre [.sl .plain (some true) 0 [],.fn 250 [] [.bp 10 0,.ep (z0d nl t)]] bs=True:=eq_true ⟨nl,t,i,ht,rfl,h⟩
theorem z0Kb {nl:Option Bool} {t:z2k} {i:Int} {bs:Nat→List z2a} (ht:z9pa t) (h:bs 10=[i64 i]):z80a.pre [.fn 250 [] [.bp 10 0,.ep (z0d nl t)]] bs=True:=eq_true ⟨nl,t,i,ht,rfl,h⟩
attribute [local simp] z1Fa fnd
set_option maxHeartbeats 8000000 in
theorem z2bc (E:Env) (hC249:E.C 249=z1Va):∀ds bs p,z80a.pre ds bs→ds.length=z2n.n∧awp E z2n.body (z1xb z2n.res z80a p ds bs) (z1fa z80a p ds bs):=by
 rintro _ bs p ⟨nl,t,i,ht,rfl,hb0⟩
 have post:=z4xa (nl:=nl) (t:=t) hb0
 generalize hp:p 0=p0
 have hp1:=fun(bs:Nat→List z2a) (h:bs 10=[i64 i])=>z8Wb (nl:=nl) ht h
 have hp2:=fun(bs:Nat→List z2a) (h:bs 10=[i64 i]) x=>z1ya (nl:=nl) (t:=t) (x:=x) h
 simp(maxSteps:=1000000) (disch:=first|omega|(simp;done)|(simp;omega)) [z8a,z1a,z0a,z2n,z1fa,z4Cb,hb0,hp]
 simp(maxSteps:=1000000) (disch:=first|omega|(simp;done)|(simp;omega)) [z8a,z1a,z0a,okW,z7bb,hC249,z9yb,z1cc,hp1,hp2,z0wa,z4fa,z0ra]
 refine⟨fun a b h=>(by rcases h with⟨h,_⟩|⟨h,_⟩<;>exact h),?_⟩
 simp(maxSteps:=1000000) (disch:=first|omega|(simp;done)|(simp;omega)) [z8a,z1a,z0a,z1xb,hp,post,z4fa,z0ra,z7Na]
 skip
end Go.Abs
end

section
namespace Go.Abs
set_option maxRecDepth 100000
def z7Ua (l:List z2d) (i:Int):Option (List Int):=(z80 l i).map fun _=>z7z l i
def z9Db (nl:Option Bool) (o:Option (List Int)):z2a:=match o with|some l=> .tup [.sl .plain nl l.length (z6l l),i64 0]|none=> .tup [.sl .plain none 0 [],i64 11]
def z9Oc (n':Option Bool):z4a:=⟨z3U.pre,fun ds=>z9Db n' (z7Ua (z7D (gCs (nth ds 0))).keys (asI (nth ds 1)))⟩
theorem z7cb (n':Option Bool) {nl:Option Bool} {t:z2k} (i:Int) (h:z9pa t):(z9Oc n').pre [.agg (z0d nl t),i64 i]=True:=eq_true ⟨nl,t,i,h,rfl⟩
theorem z2ua (n' nl:Option Bool) (t:z2k) (i:Int):(z9Oc n').post [.agg (z0d nl t),i64 i]=z9Db n' (z7Ua t.keys i):=by
 show z9Db n' (z7Ua (z7D (z0d nl t)).keys i)=_
 rw[z0k]
def z0zb (l:List z2d) (i:Int):Option Int:=(z7Ua l i).map fun L=>L.getLastD 0
def z60b (o:Option Int):z2a:=match o with|some z=> .tup [i64 z,i64 0]|none=> .tup [i64 0,i64 11]
def z0Rb:z4a:=⟨z3U.pre,fun ds=>z60b (z0zb (z7D (gCs (nth ds 0))).keys (asI (nth ds 1)))⟩
theorem z2Mb {nl:Option Bool} {t:z2k} (i:Int) (h:z9pa t):z0Rb.pre [.agg (z0d nl t),i64 i]=True:=eq_true ⟨nl,t,i,h,rfl⟩
theorem z9Ra (nl:Option Bool) (t:z2k) (i:Int):z0Rb.post [.agg (z0d nl t),i64 i]=z60b (z0zb t.keys i):=by
 show z60b (z0zb (z7D (z0d nl t)).keys i)=_
 rw[z0k]
abbrev z8Ca:z4a:=z9Oc none
attribute [local simp] z1Fa fnd
set_option maxHeartbeats 8000000 in
theorem z8Ub (E:Env) (h230:E.G 230=z0Fa) (h236:E.M 236=lnM) (hC237:E.C 237=z80a):∀ds,z8Ca.pre ds→ds.length=z5n.n∧awp E z5n.body (z2q z5n.res (z8Ca.post ds)) (z9b z5n.wr ds):=by
 rintro _ ⟨nl,t,i,ht,rfl⟩
 rw[z2ua]
 obtain⟨tk,hl,_,hk⟩:=z8q ht
 have e1:=z57 (nl:=nl) (t:=t) i tk
 have e2:=z7O nl t i
 have p1:=z3Pb (nl:=nl) i ht
 have hp1:=fun(bs:Nat→List z2a) (h:bs 10=[i64 i])=>z0Kb (nl:=nl) ht h
 have hp2:=fun(bs:Nat→List z2a) (h:bs 10=[i64 i])=>z4xa (nl:=nl) (t:=t) h
 cases hg:z80 t.keys i with
 |none=>
  rw[hg,z8va] at e2
  have hn:z7Ua t.keys i=none:=by rw[z7Ua,hg];rfl
  rw[hn,z9Db]
  simp(maxSteps:=1000000) (disch:=first|omega|(simp;done)|(simp;omega)) [z8a,z1a,z0a,z5n,h230,e1,e2,kT,kF,dT,dF,z8k,z1r,z6i]
  skip
 |some k=>
  rw[hg,z8va] at e2
  have hn:z7Ua t.keys i=some (z7z t.keys i):=by rw[z7Ua,hg];rfl
  rw[hn,z9Db]
  simp(maxSteps:=1000000) (disch:=first|omega|(simp;done)|(simp;omega)) [z8a,z1a,z0a,z5n,h230,e1,e2,kT,kF,dT,dF,z8k,z1r,z6i]
  rw[z1U]
  simp(maxSteps:=1000000) (disch:=first|omega|(simp;done)|(simp;omega)) [z8a,z1a,z0a,h236,p1]
  simp(maxSteps:=1000000) (disch:=first|omega|(simp;done)|(simp;omega)) [z8a,z1a,z0a,okW,z7bb,hC237,z9yb,z1cc,hp1,hp2,z0wa,z4fa,z0ra,z7Na,z8Oa]
  intro a b h
  rcases h with h|h|h|h<;>(have:=h.1;omega)
theorem z6fb (l:List z2d) (i:Int):(z7Ua l i=none∧z0zb l i=none)∨∃L:List Int,z7Ua l i=some L∧(0<L.length∧L.length≤l.length+1)∧z0zb l i=some (L.getD (L.length-1) 0):=by
 have h0:=z5Ma l i
 unfold z0zb z7Ua
 cases z80 l i with
 |none=>exact .inl ⟨rfl,rfl⟩
 |some k=>
  refine .inr ⟨_,rfl,⟨?_,z4Ta l i⟩,?_⟩
  ·rcases Nat.lt_or_ge 0 (z7z l i).length with h|h
   ·exact h
   ·rw[List.getElem?_eq_none h] at h0;cases h0
  ·simp[List.getLastD_eq_getLast?,List.getLast?_eq_getElem?]
theorem z5lb {L:List Int} {j:Nat} (h:j<L.length):hdA ((z6l L).drop j)=i64 (L.getD j 0):=by
 have h':j<(z6l L).length:=by simpa using h
 rw[List.drop_eq_getElem_cons h',List.getD,List.getElem?_eq_getElem h]
 simp[z6l,hdA]
set_option maxHeartbeats 8000000 in
theorem z38a (E:Env) (h234:E.G 234=z8Ca):∀ds,z0Rb.pre ds→ds.length=z3l.n∧awp E z3l.body (z2q z3l.res (z0Rb.post ds)) (z9b z3l.wr ds):=by
 rintro _ ⟨nl,t,i,ht,rfl⟩
 rw[z9Ra]
 have e1:=z7cb none (nl:=nl) i ht
 have e2:=z2ua none nl t i
 rcases z6fb t.keys i with⟨h1,h2⟩|⟨L,h1,⟨h3,h4⟩,h2⟩
 ·rw[h1,z9Db] at e2
  rw[h2,z60b]
  simp(maxSteps:=1000000) (disch:=first|omega|(simp;done)|(simp;omega)) [z8a,z1a,z0a,z3l,h234,z8Ca,e1,e2,kT,kF,dT,dF]
  skip
 ·rw[h1,z9Db] at e2
  rw[h2,z60b]
  have hat:=z5lb (L:=L) (j:=L.length-1) (by omega)
  have hl:=(z8q ht).2.1
  have hW:W ((L.length:Int)-1)=((L.length-1:Nat):Int):=by
   rw[z8a (by omega) (by omega)];omega
  generalize L.getD (L.length-1) 0=z at*
  simp(maxSteps:=1000000) (disch:=first|omega|(simp;done)|(simp;omega)) [z8a,z1a,z0a,z3l,z6N,h234,z8Ca,e1,e2,kT,kF,dT,dF,hat,hW]
  omega
end Go.Abs
end
