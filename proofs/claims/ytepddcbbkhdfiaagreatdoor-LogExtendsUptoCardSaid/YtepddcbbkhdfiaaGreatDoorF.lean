/- Lemmas: an abstract interpreter, and what the functions compute. -/
import Derived.Test.YtepddcbbkhdfiaaGreatDoorE
import Derived.Laws.Sem
set_option linter.unusedSimpArgs false
set_option linter.unusedVariables false
set_option linter.unusedSectionVars false
section
set_option linter.unusedVariables false
namespace Go.Abs

mutual
def toV:z2a→Value
 | .lit v=>v
 | .agg cs=> .agg (z2Qa cs).toArray
 | .tup cs=> .tuple (z2Qa cs).toArray
 |_=>undef
def z2Qa:List z2a→List Value
 |[]=>[]
 |c::cs=>toV c::z2Qa cs
end
mutual
theorem z01a {K:Con} {g:Gh} {w:World}:∀(c:z2a) (l:Option Loc),z5b c=true→Rep K g w l c (toV c)
 | .lit v,_,_=>by simp[Rep,toV]
 | .agg cs,_,h=>by
  simp only[z5b] at h
  simp only[Rep,toV]
  exact⟨_,rfl,by simpa using z6cb cs h⟩
 | .tup cs,_,h=>by
  simp only[z5b] at h
  simp only[Rep,toV]
  exact⟨_,rfl,by simpa using z6cb cs h⟩
 | .undef,_,h=>by simp[z5b] at h
 | .sl _ _ _ _,_,h=>by simp[z5b] at h
 | .bp _ _,_,h=>by simp[z5b] at h
 | .bv _ _ _ _ _,_,h=>by simp[z5b] at h
 | .ep _,_,h=>by simp[z5b] at h
 | .otup _ _ _ _ _,_,h=>by simp[z5b] at h
 | .oagg _ _ _ _ _ _,_,h=>by simp[z5b] at h
 | .fn _ _ _,_,h=>by simp[z5b] at h
theorem z6cb {K:Con} {g:Gh} {w:World}:∀(cs:List z2a),z6b cs=true→z5d K g w cs (z2Qa cs)
 |[],_=>by simp[z5d,z2Qa]
 |c::cs,h=>by
  simp only[z6b,Bool.and_eq_true] at h
  simp only[z5d,z2Qa]
  exact⟨_,_,rfl,z01a c none h.1,z6cb cs h.2⟩
end
theorem z3gb:∀cs,(z2Qa cs).length=cs.length
 |[]=>rfl
 |_::cs=>by simp[z2Qa,z3gb cs]
theorem z3Pb:∀(cs:List z2a) (i:Nat),(z2Qa cs)[i]? =(cs[i]?).map toV
 |[],i=>by simp[z2Qa]
 |c::cs,0=>by simp[z2Qa]
 |c::cs,i+1=>by simp[z2Qa,z3Pb cs i]

mutual
theorem z9ta {K:Con} {g:Gh} {w:World}:∀(c:z2a) (v:Value) (l:Option Loc),z5b c=true→Rep K g w l c v→v=toV c
 | .lit x,v,_,_,h=>by simpa[Rep,toV] using h
 | .agg cs,v,_,hm,h=>by
  simp only[z5b] at hm
  simp only[Rep] at h
  obtain⟨a,rfl,h⟩:=h
  simp only[toV,Value.agg.injEq]
  rw[←z6ga cs _ hm h]
 | .tup cs,v,_,hm,h=>by
  simp only[z5b] at hm
  simp only[Rep] at h
  obtain⟨a,rfl,h⟩:=h
  simp only[toV,Value.tuple.injEq]
  rw[←z6ga cs _ hm h]
 | .undef,_,_,h,_=>by simp[z5b] at h
 | .sl _ _ _ _,_,_,h,_=>by simp[z5b] at h
 | .bp _ _,_,_,h,_=>by simp[z5b] at h
 | .bv _ _ _ _ _,_,_,h,_=>by simp[z5b] at h
 | .ep _,_,_,h,_=>by simp[z5b] at h
 | .otup _ _ _ _ _,_,_,h,_=>by simp[z5b] at h
 | .oagg _ _ _ _ _ _,_,_,h,_=>by simp[z5b] at h
 | .fn _ _ _,_,_,h,_=>by simp[z5b] at h
theorem z6ga {K:Con} {g:Gh} {w:World}:∀(cs:List z2a) (vs:List Value),z6b cs=true→z5d K g w cs vs→vs=z2Qa cs
 |[],vs,_,h=>by simpa[z5d,z2Qa] using h
 |c::cs,vs,hm,h=>by
  simp only[z6b,Bool.and_eq_true] at hm
  simp only[z5d] at h
  obtain⟨x,xs,rfl,h1,h2⟩:=h
  rw[z2Qa,←z9ta c x none hm.1 h1,←z6ga cs xs hm.2 h2]
end

structure z7qb (K:Cx) (S:Nat→Nat) (el:Nat→Option (List z2a)) (l:Nat) (J:Nat→(Nat→Prop)→World→Prop) (Jx:(Nat→Prop)→World→Prop) (N:Nat) (O0:Nat→Prop) (w:World):Prop where
 start:J 0 O0 w
 bound:∀i O A,J i O A→i≤N
 stab:∀i (O O':Nat→Prop) A B,J i O A→Fr A.heap.size O A B→(∀b,O' b→(O b∨A.heap.size≤b)∧b<B.heap.size)→J i O' B
 stabx:∀(O O':Nat→Prop) A B,Jx O A→Fr A.heap.size O A B→(∀b,O' b→(O b∨A.heap.size≤b)∧b<B.heap.size)→Jx O' B
 round:∀i O A xs q,J i O A→el i=some xs→YieldAt Fence.wide q K.P l (z2Qa xs).toArray A fun e B=>
  z1g S w S B∧(∀b,O b→B.heap[b]? =A.heap[b]?)∧A.heap.size≤B.heap.size∧B.os=A.os∧B.tape=A.tape∧B.output=A.output∧
   ((e= .returned (.bool true)∧J (i+1) O B)∨(e= .returned (.bool false)∧Jx O B))

structure z4Lc (K:Cx) (S:Nat→Nat) (w:World) (lv:List Nat) (B:Nat→Option Nat) (y:List z2a) (vy:List Value):Prop where
 len:y.length=vy.length
 at':∀(i:Nat) d v,y[i]? =some d→vy[i]? =some v→if i∈lv then∃b cs,B i=some b∧d= .ep cs∧v= .pointer (some ⟨b,0,none⟩)∧S b=0∧b<w.heap.size∧z6b cs=true∧∀(j:Nat) e,cs[j]? =some e→w.cell? ⟨b,j,none⟩=some (toV e)∧w.frozen? ⟨b,j,none⟩=false else z6c K.toCon S w d v
 inj:∀i j b,B i=some b→B j=some b→i=j
 dom:∀i b,B i=some b→i∈lv
 lt:∀i∈lv,i<y.length

def z0x (K:Cx) (f:Nat) (c:ItC):Prop:=
 z0U K.P (K.nu f)∧∀(S:Nat→Nat) (w:World) (x y:List z2a) (vx vy:List Value) (B:Nat→Option Nat),(∀n∈K.N.gs,z9d K.toCon S w (K.E.T n) (K.N.gnum n) 0)→z8c K.toCon S w x vx→z4Lc K S w c.lv B y vy→c.pre x y→
  ∀l J Jx N,z7qb K S (c.el x y) l J Jx N (fun b=>∃i,B i=some b) w→
   Calls K.P (K.nu f) (vx++Value.func (.yield l) #[] #[]::vy).toArray w fun e B'=>∃v,e= .returned v∧∃O,(∀b,(∃i,B i=some b)→O b)∧((∃i,c.el x y i=none∧J i O B')∨Jx O B')

section
variable {K : Cx} {base : z3s} {n : Nat} {st : ASt} {a : Act} {w : World}

structure z4xb (K:Cx) (base:z3s) (st:ASt) (ks:List Nat) (a:Act) (l D:Nat) (S0:Nat→Nat) (w0 w1:World) (bx:List (Nat×Option (List z2a))) (O:Nat→Prop) (g:Gh) (A:World):Prop where
 inv:Inv K base g A (ASt.getB {org:=st.org,env:=z8r st ks,box:=bx})
 slots:z3e K g A (ASt.get {org:=st.org,env:=z8r st ks,box:=bx}) a
 apart:∀b,O b∨b=l∨b=D→z6J g b∧(base.w0.heap.size≤b∨base.W b)∧b<A.heap.size
 noL:¬O l
 noD:¬O D
 blkD:A.heap[D]? =some (.deferred (some []))
 kp:z1g S0 w1 g.S A

theorem z8Ab (st:ASt) (ks:List Nat) (bx:List (Nat×Option (List z2a))) (s:Nat):ASt.get {org:=st.org,env:=z8r st ks,box:=bx} s=if s∈ks then dem (st.get s) else dem ((lk st.org s).getD .undef):=by
 show(match lk (z8r st ks) s with|some d=>d|none=>_)=_
 rw[show lk (z8r st ks) s=if s∈ks then some (dem (st.get s)) else none from z4f (fun s=>dem (st.get s)) s ks]
 by_cases hs:s∈ks<;>simp[hs]

theorem z50a {g:Gh} {w:World} {ks:List Nat} {bx:List (Nat×Option (List z2a))} (h:∀s∈ks,Rep K.toCon g w none (dem (st.get s)) (a.tmps.getD s undef)) (ho:∀s d,lk st.org s=some d→z6c K.toCon g.S w d (a.tmps.getD s undef)):
  z3e K g w (ASt.get {org:=st.org,env:=z8r st ks,box:=bx}) a:=fun s=>by
 rw[z8Ab]
 have hd:∀d:z2a,z5e (dem d)=false:=z4M
 split
 ·rename_i hs
  exact z8T _ (hd _) (h s hs)
 ·cases hl:lk st.org s with
  |none=>simp[Abs.dem,Rep]
  |some d=>exact z6c.dem (g:=g) _ (ho s d hl)

theorem z58b {ps:List Tmp}:∀{vs:List Value} {tmps:Array Value},ps.Nodup→ps.length=vs.length→(∀p∈ps,p<tmps.size)→
  (((ps.zip vs).foldl (fun t (x:Tmp×Value)=>t.setIfInBounds x.1 x.2) tmps).size=tmps.size∧
   (∀s,s∉ps→((ps.zip vs).foldl (fun t (x:Tmp×Value)=>t.setIfInBounds x.1 x.2) tmps).getD s undef=tmps.getD s undef)∧
   ∀(i:Nat) p v,ps[i]? =some p→vs[i]? =some v→((ps.zip vs).foldl (fun t (x:Tmp×Value)=>t.setIfInBounds x.1 x.2) tmps).getD p undef=v):=by
 induction ps with
 |nil=>intro vs tmps _ _ _;simp
 |cons p ps ih=>
  intro vs tmps hn hl hlt
  cases vs with
  |nil=>simp at hl
  |cons v vs=>
   rw[List.nodup_cons] at hn
   obtain⟨h1,h2,h3⟩:=ih (vs:=vs) (tmps:=tmps.setIfInBounds p v) hn.2 (by simpa using hl) (fun q hq=>by simp;exact hlt q (by simp[hq]))
   simp only[List.zip_cons_cons,List.foldl_cons]
   refine⟨by rw[h1];simp,fun s hs=> ?_,fun i q u hi hu=> ?_⟩
   ·simp only[List.mem_cons,not_or] at hs
    rw[h2 s hs.2,Array.getD_eq_getD_getElem?,Array.getElem?_setIfInBounds,if_neg (fun e=>hs.1 e.symm),←Array.getD_eq_getD_getElem?]
   ·cases i with
    |zero=>
     simp at hi hu
     subst hi hu
     rw[h2 p hn.1,Array.getD_eq_getD_getElem?,Array.getElem?_setIfInBounds]
     simp[hlt p (by simp)]
    |succ i=>exact h3 i q u (by simpa using hi) (by simpa using hu)

theorem z6Ab {ps:List Nat} {xs:List z2a} {s:Nat} (h:s∉ps):lk (ps.zip xs) s=none:=by
 induction ps generalizing xs with
 |nil=>simp[lk]
 |cons p ps ih=>
  cases xs with
  |nil=>simp[lk]
  |cons x xs=>
   simp only[List.mem_cons,not_or] at h
   simp only[List.zip_cons_cons,lk,if_neg h.1]
   exact ih h.2
theorem z8Xa {ps:List Nat}:∀{xs:List z2a} {s:Nat},ps.length=xs.length→s∈ps→∃(i:Nat) (x:z2a),ps[i]? =some s∧xs[i]? =some x∧lk (ps.zip xs) s=some x:=by
 induction ps with
 |nil=>intro xs s _ h;cases h
 |cons p ps ih=>
  intro xs s hl h
  cases xs with
  |nil=>simp at hl
  |cons x xs=>
   simp only[List.zip_cons_cons,lk]
   by_cases e:s=p
   ·rw[if_pos e];exact⟨0,x,by simp[e],by simp,rfl⟩
   ·rw[if_neg e]
    obtain⟨i,y,h1,h2,h3⟩:=ih (xs:=xs) (by simpa using hl) ((List.mem_cons.1 h).resolve_left e)
    exact⟨i+1,y,by simpa using h1,by simpa using h2,h3⟩

theorem z90b {ks ps:List Nat} {qs:Array Tmp} {xs:List z2a} {bx:List (Nat×Option (List z2a))} {O:Nat→Prop} {g:Gh} {A:World} {l D:Nat} (hps:qs.toList=ps) (hnd:ps.Nodup) (hlt:∀p∈ps,p<n) (hsz:a.tmps.size=n)
  (hlen:xs.length=ps.length) (hmf:z6b xs=true) (hpk:∀p∈ps,p∉ks∧lk st.org p=none) (hO:z8Xb K base st a) {S0:Nat→Nat} {w1:World} (h:z4xb K base st ks a l D S0 w w1 bx O g A):
  Rel K ⟨A,Wr g,g.S,[],base.mu0⟩ n (z0ya st ks ps (fun s=>a.tmps.getD s undef) xs bx) {tmps:=(qs.zip (z2Qa xs).toArray).foldl (fun t (x:Tmp×Value)=>t.setIfInBounds x.1 x.2) a.tmps,defers:=[]} A:=by
 have e1:(qs.zip (z2Qa xs).toArray).foldl (fun t (x:Tmp×Value)=>t.setIfInBounds x.1 x.2) a.tmps=(ps.zip (z2Qa xs)).foldl (fun t (x:Tmp×Value)=>t.setIfInBounds x.1 x.2) a.tmps:=by
  rw[←hps,←Array.foldl_toList,Array.toList_zip]
 obtain⟨f1,f2,f3⟩:=z58b (ps:=ps) (vs:=z2Qa xs) (tmps:=a.tmps) hnd (by rw[z3gb,hlen]) (fun p hp=>by rw[hsz];exact hlt p hp)
 rw[e1]
 refine⟨g,rebase h.inv,fun s=> ?_,fun s d hd=> ?_,rfl,by simp only;rw[f1,hsz]⟩
 ·have hg:ASt.get (z0ya st ks ps (fun s=>a.tmps.getD s undef) xs bx) s=if s∈ps then(lk (ps.zip xs) s).getD .undef else if s∈ks then dem (st.get s) else dem ((lk st.org s).getD .undef):=by
   show(match lk (ps.zip xs++z8r st ks) s with|some d=>d|none=>dem ((lk ((ks.map fun s=>(s,z2a.lit (a.tmps.getD s undef)))++st.org) s).getD .undef))=_
   rw[z8g,z8g,show lk (z8r st ks) s=if s∈ks then some (dem (st.get s)) else none from z4f (fun s=>dem (st.get s)) s ks,
    show lk (ks.map fun s=>(s,z2a.lit (a.tmps.getD s undef))) s=if s∈ks then some (z2a.lit (a.tmps.getD s undef)) else none from z4f (fun s=>z2a.lit (a.tmps.getD s undef)) s ks]
   by_cases hp:s∈ps
   ·obtain⟨i,x,_,_,e⟩:=z8Xa hlen.symm hp
    simp[e,hp]
   ·rw[z6Ab hp]
    by_cases hk:s∈ks<;>simp[hp,hk]
  rw[hg]
  by_cases hp:s∈ps
  ·obtain⟨i,x,h1,h2,e⟩:=z8Xa hlen.symm hp
   rw[if_pos hp,e,Option.getD_some]
   have hv:(z2Qa xs)[i]? =some (toV x):=by rw[z3Pb,h2];rfl
   rw[f3 i s _ h1 hv]
   have hmx:∀(cs:List z2a) (i:Nat) (c:z2a),z6b cs=true→cs[i]? =some c→z5b c=true:=fun cs=>by
    induction cs with
    |nil=>intro i c _ h;simp at h
    |cons c cs ih=>
     intro i d hm hd
     simp only[z6b,Bool.and_eq_true] at hm
     cases i with
     |zero=>simp at hd;subst hd;exact hm.1
     |succ i=>exact ih i d hm.2 (by simpa using hd)
   exact z01a x _ (hmx xs i x hmf h2)
  ·rw[if_neg hp,f2 s hp]
   have:=h.slots s
   rw[z8Ab] at this
   exact this
 ·show z6c K.toCon _ A d _
  have hd':lk ((ks.map fun s=>(s,z2a.lit (a.tmps.getD s undef)))++st.org) s=some d:=hd
  rw[z8g,show lk (ks.map fun s=>(s,z2a.lit (a.tmps.getD s undef))) s=if s∈ks then some (z2a.lit (a.tmps.getD s undef)) else none from z4f (fun s=>z2a.lit (a.tmps.getD s undef)) s ks] at hd'
  by_cases hk:s∈ks
  ·rw[if_pos hk] at hd'
   simp only[Option.some_or,Option.some.injEq] at hd'
   subst hd'
   have hp:s∉ps:=fun hp=>(hpk s hp).1 hk
   simp only[z6c]
   rw[f2 s hp]
  ·rw[if_neg hk] at hd'
   simp only[Option.none_or] at hd'
   have hp:s∉ps:=fun hp=>by have:=(hpk s hp).2;rw[hd'] at this;cases this
   rw[f2 s hp]
   exact z6c.mono (z6da h.inv) d _ (hO s d hd')

def recL (fn:FuncId) (a:Act) (qs:Array Tmp) (p q:Code) (D:Nat) (s:LoopState) (pe:Option Code):Loop:={state:=s,pending:=pe,fn,tmps:=a.tmps,params:=qs,assign:=p,body:=q,defers:=D}

theorem z7Ca (A:World) (l:Nat) (o:Obj):Fr A.heap.size (fun b=>b=l) A (A.putObj l o):=by
 refine⟨rfl,rfl,rfl,by simp[World.putObj],fun k _ hk=> ?_⟩
 exact World.putObj_heap_other hk

theorem z6Rb {P:Program} {ev:Operand→Value} {G:Operand} {f:FuncId} {first caps:Array Value} (h:ev G= .func (.func f) first caps) (hc:∀v,ev (.const v)=v) (l:Nat) (w:World):
  (resolve ev (rangeCall G l) 0).run P w= .ok {target:= .fn (.func f) caps,args:=first++ #[.func (.yield l) #[] #[]]} w:=by
 simp only[resolve,h]
 simp[go_sem,hc]

theorem z2Sb (va vc:Array Value) (y:Value):(va.toList++y::vc.toList).toArray=va++ #[y]++vc:=by
 apply Array.toList_inj.1;simp

def z4xa (g:Gh) (ids:List Nat):Gh:={g with mu:=fun id=>if id∈ids then none else g.mu id}
theorem z0kb {g:Gh} {ids:List Nat} {d:z2a} {v:Value} {l:Option Loc} (hd:∀id∈z5m d,id∉ids) (hr:Rep K.toCon g w l d v):Rep K.toCon (z4xa g ids) w l d v:=
 Rep.mono (g:=g) (g':=z4xa g ids) (z1g.refl g.S w) d v l l (fun id hid b hb=>by simp only[z4xa,if_neg (hd id hid)];exact hb) (fun m hm=>⟨m,hm,fun b hb=>⟨hb,rfl,fun _ _ h=>h⟩⟩) hr
theorem z25b {g:Gh} {ids:List Nat} {o e:List (Nat×z2a)} (hI:Inv K base g w st.getB) (h2:∀p∈st.box,p.1∈ids∨∀cs,p.2=some cs→∀id∈z9f cs,id∉ids):
  Inv K base (z4xa g ids) w (ASt.getB {org:=o,env:=e,box:=rmB ids st.box}):=by
 have hgetB:∀id,ASt.getB {org:=o,env:=e,box:=rmB ids st.box} id=if id∈ids then none else st.getB id:=fun id=>by
  simp only[ASt.getB,rmB]
  rw[z4n (fun k=> !ids.contains k)]
  by_cases hi:id∈ids
  ·simp[hi]
  ·simp[hi]
 refine⟨hI.fr,hI.sS,fun i j b hi hj=> ?_,fun id cs hc=> ?_,fun id hid=> ?_,fun id b hb=> ?_,hI.owW,hI.glob,hI.kp,fun id b cs ho hb hc hd=> ?_,fun j x h1 h2 hx=>by
  simp only[z4xa] at hx
  split at hx
  ·cases hx
  ·exact hI.old j x h1 h2 hx⟩
 ·simp only[z4xa] at hi hj
  split at hi
  ·cases hi
  ·split at hj
   ·cases hj
   ·exact hI.inj i j b hi hj
 ·rw[hgetB] at hc
  split at hc
  ·cases hc
  ·rename_i hni
   obtain⟨b,k1,k2,k3⟩:=hI.bxok id cs hc
   refine⟨b,by simp only[z4xa,if_neg hni];exact k1,k2,fun i d hi=> ?_⟩
   obtain⟨⟨x,h4,h5⟩,h6⟩:=k3 i d hi
   have hbox:∃c,lk st.box id=some (some c)∧c=cs:=by
    simp only[ASt.getB] at hc
    cases hl:lk st.box id with
    |none=>rw[hl] at hc;cases hc
    |some o=>rw[hl] at hc;simp only[Option.join_some] at hc;exact⟨cs,by rw[hc],rfl⟩
   obtain⟨c,hl,rfl⟩:=hbox
   have:=(h2 _ (z00 hl)).resolve_left hni c rfl
   exact⟨⟨x,h4,z0kb (fun id' hid'=>this id' (z1Z (z7j hi) hid')) h5⟩,h6⟩
 ·rw[hgetB] at hid
  simp only[z4xa]
  split
  ·rfl
  ·rename_i hni;rw[if_neg hni] at hid;exact hI.nobx id hid
 ·simp only[z4xa] at hb
  split at hb
  ·cases hb
  ·exact hI.muW id b hb
 ·simp only[z4xa] at hb
  rw[hgetB] at hc
  split at hc
  ·cases hc
  ·rename_i hni
   rw[if_neg hni] at hb
   exact hI.obok id b cs ho hb hc hd
theorem z7ib {lv:List Nat} {y:List z2a} {id:Nat}:id∈z7Aa lv y↔∃i∈lv,y[i]? =some (.bp id 0):=by
 simp only[z7Aa,List.mem_filterMap]
 constructor
 ·rintro⟨i,hi,h⟩
  refine⟨i,hi,?_⟩
  split at h
  ·rename_i e;rw[e];cases h;rfl
  ·cases h
 ·rintro⟨i,hi,h⟩
  exact⟨i,hi,by simp[h]⟩
def lvB (g:Gh) (lv:List Nat) (y:List z2a) (i:Nat):Option Nat:=if i∈lv then(match y[i]? with|some (.bp id 0)=>g.mu id|_=>none) else none
theorem z0Ra {g:Gh} {lv:List Nat} {y:List z2a} {i b:Nat} (h:lvB g lv y i=some b):i∈lv∧∃id,y[i]? =some (.bp id 0)∧g.mu id=some b:=by
 unfold lvB at h
 split at h
 ·rename_i hi
  split at h
  ·rename_i id e
   exact⟨hi,id,e,h⟩
  ·cases h
 ·cases h
theorem z05c {g:Gh} {ks lv:List Nat} {x y:List z2a} {vy:List Value} (hI:Inv K base g w st.getB) (hok:z8sc st ks lv x y) (hr:z5d K.toCon g w y vy):z4Lc K g.S w lv (lvB g lv y) (epY st.getB lv y) vy:=by
 obtain⟨hp,h1,h2,_,_⟩:=hok
 have hl:(epY st.getB lv y).length=y.length:=by simp[epY]
 refine⟨by rw[hl];exact hr.len,fun i d v hd hv=> ?_,fun i j b hi hj=> ?_,fun i b hi=>(z0Ra hi).1,fun i hi=> ?_⟩
 ·rw[z3Mc] at hd
  cases hy:y[i]? with
  |none=>rw[hy] at hd;cases hd
  |some d'=>
   rw[hy] at hd
   simp only[Option.map_some,Option.some.injEq] at hd
   obtain⟨v',hv',hrep⟩:=hr.get i d' hy
   rw[hv] at hv'
   cases hv'
   by_cases hi:i∈lv
   ·rw[if_pos hi]
    obtain⟨id,cs,e1,_,e2,e3⟩:=h1 i hi
    rw[hy] at e1
    cases e1
    rw[if_pos hi] at hd
    simp only[e2,Option.getD_some] at hd
    simp only[Rep] at hrep
    obtain⟨b,hb,rfl⟩:=hrep
    obtain⟨b',k1,k2,k3⟩:=hI.bxok id cs e2
    rw[hb] at k1
    cases k1
    refine⟨b,cs,by simp only[lvB,if_pos hi,hy];exact hb,hd.symm,rfl,k2,(hI.muW id b hb).2.1,e3,fun j e he=> ?_⟩
    obtain⟨⟨z,hz,hrz⟩,hf⟩:=k3 j e he
    have hme:z5b e=true:=by
     have:∀(cs:List z2a) (j:Nat),z6b cs=true→cs[j]? =some e→z5b e=true:=fun cs=>by
      induction cs with
      |nil=>intro j _ h;simp at h
      |cons c cs ih=>
       intro j hm hd
       simp only[z6b,Bool.and_eq_true] at hm
       cases j with
       |zero=>simp at hd;subst hd;exact hm.1
       |succ j=>exact ih j hm.2 (by simpa using hd)
     exact this cs j e3 he
    rw[←z9ta e z _ hme hrz]
    exact⟨hz,hf⟩
   ·rw[if_neg hi]
    rw[if_neg hi] at hd
    subst hd
    have hpu:z8d d'=true:=by
     have:=(z7g _).1 hp d' (List.mem_append_right _ (by
      have hh:(epY st.getB lv y)[i]? =some d':=by rw[z3Mc,hy];simp[hi]
      exact List.mem_of_getElem? hh))
     exact this
    exact Rep.pure d' v none hpu hrep
 ·obtain⟨a1,id,a2,a3⟩:=z0Ra hi
  obtain⟨b1,jd,b2,b3⟩:=z0Ra hj
  have:=hI.inj id jd b a3 b3
  subst this
  exact h2 i a1 j b1 (by rw[a2,b2])
 ·obtain⟨id,cs,e1,_⟩:=h1 i hi
  rw[hl]
  exact(List.getElem?_eq_some_iff.1 e1).1
theorem z4Lc.keep {S S':Nat→Nat} {w':World} {lv:List Nat} {B:Nat→Option Nat} {y:List z2a} {vy:List Value} (hk:z1g S w S' w') (h0:∀i b,B i=some b→S' b=0) (hs:w.heap.size≤w'.heap.size) (hb:∀i b,B i=some b→w'.heap[b]? =w.heap[b]?) (h:z4Lc K S w lv B y vy):z4Lc K S' w' lv B y vy:=by
 refine⟨h.len,fun i d v hd hv=> ?_,h.inj,h.dom,h.lt⟩
 have:=h.at' i d v hd hv
 by_cases hi:i∈lv
 ·rw[if_pos hi] at this⊢
  obtain⟨b,cs,k1,k2,k3,_,k5,k6,k7⟩:=this
  refine⟨b,cs,k1,k2,k3,h0 i b k1,by omega,k6,fun j e he=> ?_⟩
  obtain⟨c1,c2⟩:=k7 j e he
  have hbk:=hb i b k1
  refine⟨?_,?_⟩
  ·rw[World.cell?_of_block (w:=w) (a:=⟨b,j,none⟩) hbk];exact c1
  ·simp only[World.frozen?,hbk] at c2⊢;exact c2
 ·rw[if_neg hi] at this⊢
  exact z6c.mono hk d v this

theorem z1mc (ids:List Nat) (st:ASt) (s:Nat):(z1Ya ids st).get s= .undef∨(z1Ya ids st).get s=st.get s:=by
 have e:lk (z1Ya ids st).env s=(lk st.env s).map fun d=>if(z5m d).any (ids.contains ·) then .undef else d:=z78a (fun d=>if(z5m d).any (ids.contains ·) then z2a.undef else d) s st.env
 unfold ASt.get
 rw[e]
 cases lk st.env s with
 |none=>exact .inr rfl
 |some d=>
  simp only[Option.map_some]
  split
  ·exact .inl rfl
  ·exact .inr rfl
theorem z2bc {ids:List Nat} {st:ASt} {s:Nat} (h:∀id∈z5m (st.get s),id∉ids):(z1Ya ids st).get s=st.get s:=by
 have e:lk (z1Ya ids st).env s=(lk st.env s).map fun d=>if(z5m d).any (ids.contains ·) then .undef else d:=z78a (fun d=>if(z5m d).any (ids.contains ·) then z2a.undef else d) s st.env
 unfold ASt.get at h⊢
 rw[e]
 cases hl:lk st.env s with
 |none=>rfl
 |some d=>
  rw[hl] at h
  simp only[Option.map_some]
  rw[if_neg]
  simp only[List.any_eq_true,List.contains_eq_mem,decide_eq_true_eq,not_exists,not_and]
  exact h
def z99 (g gB:Gh) (ids:List Nat):Gh:={gB with mu:=fun id=>if id∈ids then g.mu id else gB.mu id}
theorem z2Fb {g gB:Gh} {ids:List Nat} (hn:∀id∈ids,gB.mu id=none) {d:z2a} {v:Value} {l:Option Loc} (hr:Rep K.toCon gB w l d v):Rep K.toCon (z99 g gB ids) w l d v:=
 Rep.mono (g:=gB) (g':=z99 g gB ids) (z1g.refl gB.S w) d v l l (fun id _ b hb=>by
  simp only[z99]
  split
  ·rename_i h;rw[hn id h] at hb;cases hb
  ·exact hb) (fun m hm=>⟨m,hm,fun b hb=>⟨hb,rfl,fun _ _ h=>h⟩⟩) hr
theorem z5jc {g gB:Gh} {ids:List Nat} {o e o' e':List (Nat×z2a)} {bx:List (Nat×Option (List z2a))} (hI:Inv K base gB w (ASt.getB {org:=o,env:=e,box:=bx})) (hn:∀id∈ids,(lk bx id).join=none) (hlt:∀id∈ids,id<1000000)
  (hinj:∀i j b,g.mu i=some b→g.mu j=some b→i=j) (hold:∀id b,400000≤id→id<500000→g.mu id=some b→base.mu0 id=some b) (hap:∀id∈ids,∃b,g.mu id=some b∧z6J gB b∧(base.w0.heap.size≤b∨base.W b)∧b<w.heap.size):
  Inv K base (z99 g gB ids) w (ASt.getB {org:=o',env:=e',box:=bkB ids bx}):=by
 have hmn:∀id∈ids,gB.mu id=none:=fun id hid=>hI.nobx id (hn id hid)
 have hgetB:∀id,ASt.getB {org:=o',env:=e',box:=bkB ids bx} id=if id∈ids then some [] else ASt.getB {org:=o,env:=e,box:=bx} id:=fun id=>by
  simp only[ASt.getB,bkB,z8g]
  have:lk (ids.map fun id=>(id,(some []:Option (List z2a)))) id=if id∈ids then some (some []) else none:=by
   induction ids with
   |nil=>simp[lk]
   |cons t l ih=>
    simp only[List.map_cons,lk,List.mem_cons]
    by_cases h:id=t
    ·simp[h]
    ·rw[if_neg h,ih (fun i hi=>hn i (by simp[hi])) (fun i hi=>hlt i (by simp[hi])) (fun i hi=>hap i (by simp[hi])) (fun i hi=>hmn i (by simp[hi]))]
     simp[h]
  rw[this]
  by_cases h:id∈ids<;>simp[h]
 have rep:∀{d:z2a} {v:Value} {l:Option Loc},Rep K.toCon gB w l d v→Rep K.toCon (z99 g gB ids) w l d v:=fun hr=>z2Fb hmn hr
 refine⟨hI.fr,hI.sS,fun i j b hi hj=> ?_,fun id cs hc=> ?_,fun id hid=> ?_,fun id b hb=> ?_,hI.owW,hI.glob,hI.kp,fun id b cs ho hb hc hd=> ?_,fun j x h1 h2 hx=>by
  simp only[z99] at hx
  split at hx
  ·exact hold j x h1 h2 hx
  ·exact hI.old j x h1 h2 hx⟩
 ·simp only[z99] at hi hj
  split at hi
  ·rename_i h1
   split at hj
   ·exact hinj i j b hi hj
   ·obtain⟨b',k1,k2,_⟩:=hap i h1
    rw[hi] at k1;cases k1
    exact absurd hj (k2.2.1 j)
  ·split at hj
   ·rename_i h2
    obtain⟨b',k1,k2,_⟩:=hap j h2
    rw[hj] at k1;cases k1
    exact absurd hi (k2.2.1 i)
   ·exact hI.inj i j b hi hj
 ·rw[hgetB] at hc
  split at hc
  ·rename_i h
   cases hc
   obtain⟨b,k1,k2,_⟩:=hap id h
   exact⟨b,by simp only[z99,if_pos h];exact k1,k2.1,fun i d hi=>by simp at hi⟩
  ·rename_i h
   obtain⟨b,k1,k2,k3⟩:=hI.bxok id cs hc
   refine⟨b,by simp only[z99,if_neg h];exact k1,k2,fun i d hi=> ?_⟩
   obtain⟨⟨x,h4,h5⟩,h6⟩:=k3 i d hi
   exact⟨⟨x,h4,rep h5⟩,h6⟩
 ·rw[hgetB] at hid
  split at hid
  ·cases hid
  ·rename_i h;simp only[z99,if_neg h];exact hI.nobx id hid
 ·simp only[z99] at hb
  split at hb
  ·rename_i h
   obtain⟨b',k1,k2,k3,k4⟩:=hap id h
   rw[hb] at k1;cases k1
   exact⟨k3,k4,k2.2.2⟩
  ·exact hI.muW id b hb
 ·simp only[z99] at hb
  split at hb
  ·rename_i h
   have:=hlt id h
   omega
  ·rename_i h
   rw[hgetB,if_neg h] at hc
   exact hI.obok id b cs ho hb hc hd

set_option maxHeartbeats 1000000 in
theorem z9vb {f:Nat} {t:Arg} {ks ps:List Nat} {as bd:z3a} {G:Operand} {qs:Array Tmp} {p q:Code} {Q:z7h→ASt→Prop} {m:Nat}
  (hg:z7i K G t=true) (hps:qs.toList=ps) (hlt:∀x∈ps,x<n) (hnd:ps.Nodup) (hV:z0x K f (K.E.I f))
  (hA:∀(l m':Nat) (base:z3s) (st:ASt) (a:Act) (w:World) (Q:z7h→ASt→Prop),awp K.E as Q st→Rel K base n st a w→p.wpIn (WF (some l)) m' K.P (z2Pa K base n Q) a w)
  (hB:∀(l m':Nat) (base:z3s) (st:ASt) (a:Act) (w:World) (Q:z7h→ASt→Prop),awp K.E bd Q st→Rel K base n st a w→q.wpIn (WF (some l)) m' K.P (z2Pa K base n Q) a w)
  (h:awp K.E (.range f t ks ps as bd) Q st) (hR:Rel K base n st a w):(Code.rangeFunc G qs p q).wpIn (WF none) m K.P (z2Pa K base n Q) a w:=by
 simp only[awp] at h
 obtain⟨x,y,hx,hpure,hpre,hpk,N,I,hI0,hIb,hIdone,hIround⟩:=h
 obtain⟨g,hI,hS,hO,hd,hsz⟩:=hR
 have hrep:=z9b hI hS hg
 rw[hx] at hrep
 simp only[Rep] at hrep
 obtain⟨va,vc,hev,hr1,hr2⟩:=hrep
 have hpx:z3f x=true:=(z7g x).2 fun c hc=>(z7g _).1 hpure.1 c (by simp[hc])
 obtain⟨lv,hlv⟩:∃lv,lv=(K.E.I f).lv:=⟨_,rfl⟩
 obtain⟨ids,hids⟩:∃ids,ids=z7Aa lv y:=⟨_,rfl⟩
 have hyr:=z05c hI hpure hr2
 rw[←hlv] at hyr hpure hpre hI0 hIdone hIround
 rw[←hids] at hI0 hIdone hIround
 obtain⟨_,hlive,_,hksI,hbxI⟩:=hpure
 rw[←hids] at hksI hbxI
 obtain⟨stH,hstH⟩:∃stH,stH=z1Ya ids st:=⟨_,rfl⟩
 rw[←hstH] at hksI hIround
 have horgH:stH.org=st.org:=by rw[hstH];rfl
 obtain⟨B0,hB0⟩:∃B0,B0=lvB g lv y:=⟨_,rfl⟩
 rw[←hB0] at hyr
 have hB0s:∀i b,B0 i=some b→∃id∈ids,g.mu id=some b:=fun i b hb=>by
  rw[hB0] at hb
  obtain⟨k1,id,k2,k3⟩:=z0Ra hb
  exact⟨id,by rw[hids];exact z7ib.2 ⟨i,k1,k2⟩,k3⟩
 obtain⟨g0,hg0⟩:∃g0,g0=z4xa g ids:=⟨_,rfl⟩
 have hI00:Inv K base g0 w (ASt.getB {org:=stH.org,env:=z8r stH ks,box:=rmB ids st.box}):=by rw[hg0];exact z25b hI hbxI
 have hS00:∀s∈ks,Rep K.toCon g0 w (some (.slot s)) (stH.get s) (a.tmps.getD s undef):=fun s hs=>by
  rw[hg0]
  rcases z1mc ids st s with h1|h1
  ·rw[hstH,h1];simp[Rep]
  ·rcases hksI s hs with h2|h2
   ·rw[hstH,h1];exact z0kb h2 (hS s)
   ·rw[h2.2];simp[Rep]
 have hOH:z8Xb K base stH a:=fun s d hs=>hO s d (by rw[←horgH];exact hs)
 refine wpIn_rangeFunc fun fn _=> ?_
 rw[z0wc]
 obtain⟨D,hD⟩:∃D,D=w.heap.size:=⟨_,rfl⟩
 obtain⟨l,hl⟩:∃l,l=D+1:=⟨_,rfl⟩
 obtain⟨rec,hrec⟩:∃rec,rec=recL fn a qs p q D:=⟨_,rfl⟩
 obtain⟨W1,hW1⟩:∃W1,(w.alloc (.deferred (some []))).alloc (.loop (rec .ready none))=W1:=⟨_,rfl⟩
 have hs1:(w.alloc (.deferred (some []))).heap.size=l:=by simp[hl,hD]
 have hsW:W1.heap.size=l+1:=by rw[←hW1];simp[hl,hD]
 have hlW:W1.heap[l]? =some (.loop (rec .ready none)):=by
  rw[←hW1,←hs1];exact World.alloc_heap_new _ _
 have hDW:W1.heap[D]? =some (.deferred (some [])):=by
  rw[←hW1,hD];exact(RowKit.Below.heap_alloc _ _ _ (by simp)).trans (World.alloc_heap_new w _)
 obtain⟨g1,hg1⟩:∃g1,g1=z3J (z3J g0 D 0 none) l 0 none:=⟨_,rfl⟩
 have hI1:Inv K base g1 W1 (ASt.getB {org:=stH.org,env:=z8r stH ks,box:=rmB ids st.box}):=by
  have k1:=z8X hI00 (.deferred (some [])) 0 none
  have k2:=z8X k1 (.loop (rec .ready none)) 0 none
  rw[hs1,←hD,hW1,←hg1] at k2
  exact k2
 have hx1:Ext g0 w g1 W1:=by
  have k1:=z8X hI00 (.deferred (some [])) 0 none
  have e1:=z8O hI00 (.deferred (some [])) 0 none
  have e2:=z8O k1 (.loop (rec .ready none)) 0 none
  rw[hs1,←hD,hW1,←hg1] at e2
  rw[←hD] at e1
  exact⟨e1.keeps.trans e2.keeps,fun id b hb=>e2.mu id b (e1.mu id b hb),fun m b hb=>by
   obtain⟨a1,a2,a3⟩:=e1.own m b hb
   obtain⟨b1,b2,b3⟩:=e2.own m b a1
   exact⟨b1,b2.trans a2,fun o n ht=>b3 o n (a3 o n ht)⟩⟩
 have hS1:∀s∈ks,Rep K.toCon g1 W1 (some (.slot s)) (stH.get s) (a.tmps.getD s undef):=fun s hs=>hx1.rep (hS00 s hs)
 have hfr1:base.w0.heap.size≤D:=by rw[hD];exact hI.fr.size
 have apD:z6J g1 D:=by
  refine⟨by rw[hg1];simp[z3J],fun id hi=> ?_,by rw[hg1];simp[z3J]⟩
  have:g0.mu id=some D:=by rw[hg1] at hi;exact hi
  have:=(hI00.muW id D this).2.1
  omega
 have apl:z6J g1 l:=by
  refine⟨by rw[hg1];simp[z3J],fun id hi=> ?_,by rw[hg1];simp[z3J]⟩
  have:g0.mu id=some l:=by rw[hg1] at hi;exact hi
  have:=(hI00.muW id l this).2.1
  omega
 -- what holds between the rounds
 let J:Nat→(Nat→Prop)→World→Prop:=fun i O A=>∃bx gA,I i bx∧z4xb K base stH ks a l D g1.S w W1 bx O gA A∧A.heap[l]? =some (.loop (rec .ready none))
 let Jx:(Nat→Prop)→World→Prop:=fun O A=>∃bx gA e jc,(e=z7h.ret∧jc=Code.ret∨∃id,e= .exit id∧jc= .exit id)∧z4pb st ks ids Q e bx∧z4xb K base stH ks a l D g1.S w W1 bx O gA A∧A.heap[l]? =some (.loop (rec .done (some jc)))
 have outer_stab:∀bx gA (O O':Nat→Prop) A B,z4xb K base stH ks a l D g1.S w W1 bx O gA A→Fr A.heap.size O A B→(∀b,O' b→(O b∨A.heap.size≤b)∧b<B.heap.size)→
   ∃gB,z4xb K base stH ks a l D g1.S w W1 bx O' gB B∧B.heap[l]? =A.heap[l]? :=fun bx gA O O' A B ho hfr hO'=>by
  have hap:∀b,O b→z6J gA b∧(base.w0.heap.size≤b∨base.W b):=fun b hb=>⟨(ho.apart b (.inl hb)).1,(ho.apart b (.inl hb)).2.1⟩
  have hlA:=(ho.apart l (.inr (.inl rfl))).2.2
  have hDA:=(ho.apart D (.inr (.inr rfl))).2.2
  -- what the iterator laid is apart: its cells are stable nowhere
  let gB:Gh:={gA with S:=fun b=>if b<A.heap.size then gA.S b else 0}
  have hkA:z1g gA.S A gB.S A:=fun b i v hi hc=>by
   have:=World.block_lt_of_cell? A ⟨b,i,none⟩ hc
   exact⟨by simp only[gB,if_pos this];exact hi,hc⟩
  have repA:∀{d:z2a} {v:Value} {lo:Option Loc},Rep K.toCon gA A lo d v→Rep K.toCon gB A lo d v:=fun {d v lo} hr=>
   Rep.mono (g:=gA) (g':=gB) hkA d v lo lo (fun _ _ _ hb=>hb) (fun m hm=>⟨m,hm,fun b hb=>⟨hb,by simp only[gB,if_pos (ho.inv.owW b m hb).2],fun _ _ h=>h⟩⟩) hr
  have hIA:Inv K base gB A (ASt.getB {org:=stH.org,env:=z8r stH ks,box:=bx}):=by
   refine⟨ho.inv.fr,fun b hb hw=> ?_,ho.inv.inj,fun id cs hc=> ?_,ho.inv.nobx,ho.inv.muW,ho.inv.owW,fun n hn=>z9d.mono hkA _ _ _ (ho.inv.glob n hn),ho.inv.kp.trans hkA,ho.inv.obok,ho.inv.old⟩
   ·simp only[gB,if_pos (Nat.lt_of_lt_of_le hb ho.inv.fr.size)]
    exact ho.inv.sS b hb hw
   ·obtain⟨b,k1,k2,k3⟩:=ho.inv.bxok id cs hc
    refine⟨b,k1,by simp only[gB,if_pos (ho.inv.muW id b k1).2.1];exact k2,fun i d hi=> ?_⟩
    obtain⟨⟨v,hv,hr⟩,hz⟩:=k3 i d hi
    exact⟨⟨v,hv,repA hr⟩,hz⟩
  have hapB:∀b,z6J gA b→z6J gB b:=fun b hb=>⟨by simp only[gB];split;exact hb.1;rfl,hb.2.1,hb.2.2⟩
  have hap':∀b,O b→z6J gB b∧(base.w0.heap.size≤b∨base.W b):=fun b hb=>⟨hapB b (hap b hb).1,(hap b hb).2⟩
  have new:∀b,A.heap.size≤b→z6J gB b:=fun b hb=>by
   refine⟨by simp only[gB,if_neg (Nat.not_lt.2 hb)],fun id hi=> ?_,?_⟩
   ·have:=(ho.inv.muW id b hi).2.1;omega
   ·cases hlo:gA.ow b with
    |none=>rfl
    |some lo=>have:=(ho.inv.owW b lo hlo).2;omega
  have hlt':∀b lo,gB.ow b=some lo→b<A.heap.size:=fun b lo hb=>(ho.inv.owW b lo hb).2
  refine⟨gB,⟨z6kb hIA hfr hap',fun s=>z35a hfr (fun b hb=>(hap' b hb).1) hlt' (repA (ho.slots s)),fun b hb=> ?_,fun hb=> ?_,fun hb=> ?_,?_,?_⟩,?_⟩
  ·rcases hb with hb|rfl|rfl
   ·obtain⟨h1,h2⟩:=hO' b hb
    rcases h1 with h1|h1
    ·exact⟨hapB b (ho.apart b (.inl h1)).1,(ho.apart b (.inl h1)).2.1,h2⟩
    ·exact⟨new b h1,.inl (Nat.le_trans ho.inv.fr.size h1),h2⟩
   ·exact⟨hapB _ (ho.apart _ (.inr (.inl rfl))).1,(ho.apart _ (.inr (.inl rfl))).2.1,Nat.lt_of_lt_of_le hlA hfr.size⟩
   ·exact⟨hapB _ (ho.apart _ (.inr (.inr rfl))).1,(ho.apart _ (.inr (.inr rfl))).2.1,Nat.lt_of_lt_of_le hDA hfr.size⟩
  ·rcases(hO' l hb).1 with h1|h1
   ·exact ho.noL h1
   ·omega
  ·rcases(hO' D hb).1 with h1|h1
   ·exact ho.noD h1
   ·omega
  ·rw[hfr.block D hDA ho.noD];exact ho.blkD
  ·exact(ho.kp.trans hkA).trans (z4ta hfr fun b hb=>(hap' b hb).1)
  ·exact hfr.block l hlA ho.noL
 have hB0lt:∀i b,B0 i=some b→b<w.heap.size:=fun i b hb=>by
  obtain⟨id,_,hm⟩:=hB0s i b hb
  exact(hI.muW id b hm).2.1
 have hB0ap:∀i b,B0 i=some b→z6J g1 b:=fun i b hb=>by
  obtain⟨id,hid,hm⟩:=hB0s i b hb
  have hlt:=hB0lt i b hb
  have hbl:b≠l:=by omega
  have hbD:b≠D:=by omega
  have hSb:g.S b=0:=by
   have hne:st.getB id≠none:=fun e=>by have:=hI.nobx id e;rw[hm] at this;cases this
   cases hc:st.getB id with
   |none=>exact absurd hc hne
   |some cs=>
    obtain⟨b',k1,k2,_⟩:=hI.bxok id cs hc
    rw[hm] at k1;cases k1;exact k2
  have ow0:=(hI.muW id b hm).2.2
  refine⟨by rw[hg1,hg0];simp[z3J,z4xa,hbl,hbD,hSb],fun jd hj=> ?_,by rw[hg1,hg0];simp[z3J,z4xa,hbl,hbD,ow0]⟩
  have hj':(z4xa g ids).mu jd=some b:=by rw[hg1,hg0] at hj;exact hj
  simp only[z4xa] at hj'
  split at hj'
  ·cases hj'
  ·rename_i hn
   have:=hI.inj jd id b hj' hm
   exact hn (this▸hid)
 have start:J 0 (fun b=>∃i,B0 i=some b) W1:=by
  refine⟨rmB ids st.box,g1,hI0,⟨?_,?_,fun b hb=> ?_,fun h=> ?_,fun h=> ?_,hDW,z1g.refl _ _⟩,hlW⟩
  ·exact hI1
  ·refine z50a (fun s hs=> ?_) (fun s d hs=> ?_)
   ·exact Rep.dem none (hS1 s hs)
   ·exact z6c.mono (z1q hI1) d _ (hOH s d hs)
  ·rcases hb with⟨i,hb⟩|rfl|rfl
   ·obtain⟨id,hid,hm⟩:=hB0s i b hb
    exact⟨hB0ap i b hb,(hI.muW id b hm).1,by have:=hB0lt i b hb;omega⟩
   ·exact⟨apl,.inl (by omega),by omega⟩
   ·exact⟨apD,.inl (by omega),by omega⟩
  ·obtain⟨i,hi⟩:=h
   have:=hB0lt i l hi;omega
  ·obtain⟨i,hi⟩:=h
   have:=hB0lt i D hi;omega
 have rounds:z7qb K g1.S ((K.E.I f).el x (epY st.getB lv y)) l J Jx N (fun b=>∃i,B0 i=some b) W1:=by
  refine⟨start,fun i O A ⟨bx,gA,hi,_⟩=>hIb i bx hi,fun i O O' A B hj hfr hO'=> ?_,fun O O' A B hj hfr hO'=> ?_,fun i O A xs q' hj hel=> ?_⟩
  ·obtain⟨bx,gA,hi,ho,hlA⟩:=hj
   obtain⟨gB,h1,h2⟩:=outer_stab bx gA O O' A B ho hfr hO'
   exact⟨bx,gB,hi,h1,by rw[h2];exact hlA⟩
  ·obtain⟨bx,gA,e,jc,he,hq,ho,hlA⟩:=hj
   obtain⟨gB,h1,h2⟩:=outer_stab bx gA O O' A B ho hfr hO'
   exact⟨bx,gB,e,jc,he,hq,h1,by rw[h2];exact hlA⟩
  ·obtain⟨bx,gA,hi,ho,hlA⟩:=hj
   obtain⟨hlen,hmf,hw⟩:=hIround i bx xs hi hel
   have hal:=ho.apart l (.inr (.inl rfl))
   have haD:=ho.apart D (.inr (.inr rfl))
   have hqs:(z2Qa xs).toArray.size=qs.size:=by
    simp only[List.size_toArray,z3gb,hlen,←hps,Array.length_toList]
   have hy:=run_yield (P:=K.P) (args:=(z2Qa xs).toArray) hlA (by rw[hrec];exact hqs)
   rw[hrec] at hy
   refine⟨_,_,_,_,hy,roundIn_of_wpIn (n:=q') trivial ?_⟩
   have hR0:=z90b (xs:=xs) (qs:=qs) hps hnd hlt hsz hlen hmf (by rw[horgH];exact hpk) hOH ho
   refine wpIn_mono (hA l q' _ _ _ A _ (hw (fun s=>a.tmps.getD s undef)) hR0) ?_
   intro e a1 w1 hl1
   cases e with
   |normal=>
    simp only[z2Pa] at hl1
    obtain⟨base1,hE1,st1,hR1,hq1⟩:=hl1
    simp only[z4va] at hq1
    obtain⟨gb,hIb1,hSb,hOb,hdb,hszb⟩:=hR1
    have hIr:=hE1.inv _ _ _ hIb1
    have hl1':w1.heap[l]? =some (.loop (rec .ready none)):=by rw[z3ha hIr hal.2.2 hal.1];exact hlA
    have hlt1:l<w1.heap.size:=Nat.lt_of_lt_of_le hal.2.2 hIr.fr.size
    have ap1:∀b,O b∨b=l∨b=D→z6J gb b∧b<w1.heap.size:=fun b hb=>⟨z9xa hIr (ho.apart b hb).2.2 (ho.apart b hb).1,Nat.lt_of_lt_of_le (ho.apart b hb).2.2 hIr.fr.size⟩
    simp only[Exit.then]
    refine⟨_,run_beginRound hl1' (by rw[hrec];rfl),?_⟩
    obtain⟨w2,hw2⟩:∃w2,w2=w1.putObj l (.loop {rec .ready none with state:= .busy}):=⟨_,rfl⟩
    rw[←hw2]
    have hf2:Fr w1.heap.size (fun b=>b=l) w1 w2:=by rw[hw2];exact z7Ca _ _ _
    have hz2:w2.heap.size=w1.heap.size:=by rw[hw2];simp[World.putObj]
    have hl2:w2.heap[l]? =some (.loop {rec .ready none with state:= .busy}):=by rw[hw2];exact World.putObj_heap_same hlt1
    have hI1b:Inv K base gb w1 st1.getB:=z8Ob ho.inv hIr
    have hl0:base.w0.heap.size≤l∨base.W l:= .inl (by omega)
    have hI2:Inv K base gb w2 st1.getB:=z6kb hI1b hf2 fun b hb=>by subst hb;exact⟨(ap1 _ (.inr (.inl rfl))).1,hl0⟩
    have hlo1:∀b lo,gb.ow b=some lo→b<w1.heap.size:=fun b lo hb=>(hIb1.owW b lo hb).2
    have hfa2:∀b,b=l→z6J gb b:=fun b hb=>by subst hb;exact(ap1 _ (.inr (.inl rfl))).1
    have hR2:Rel K ⟨w2,Wr gb,gb.S,base1.dl,base.mu0⟩ n st1 a1 w2:=by
     refine⟨gb,rebase hI2,fun s=>z35a hf2 hfa2 hlo1 (hSb s),fun s d hs=> ?_,hdb,hszb⟩
     refine z6c.mono ?_ d _ (hOb s d hs)
     refine(z6da (dl:=base1.dl) hIb1).trans fun b i v hi' hc=> ?_
     have hb:b<w1.heap.size:=World.block_lt_of_cell? w1 ⟨b,i,none⟩ hc
     unfold z3s.S at hi'⊢
     split at hi'
     ·rename_i h
      have hbl:b≠l:=fun e=>by
       subst e
       have:gb.S b=0:=(ap1 _ (.inr (.inl rfl))).1.1
       simp only at hi';omega
      refine⟨?_,?_⟩
      ·rw[if_pos ⟨by rw[hz2];exact h.1,h.2⟩];exact hi'
      ·rw[World.cell?_of_block (w:=w1) (a:=⟨b,i,none⟩) (hf2.block b hb hbl)];exact hc
     ·omega
    refine wpIn_mono (hB l q' _ _ _ w2 _ hq1 hR2) ?_
    -- behind the body
    have fin:∀(jump:Option Code) (a3:Act) (w3:World) (base3:z3s) (st3:ASt),z5V K ⟨w2,Wr gb,gb.S,base1.dl,base.mu0⟩ base3→Rel K base3 n st3 a3 w3→z0Ea stH ks (fun s=>a.tmps.getD s undef) st3→
      ∃g3 w4,(Instr.endRound l jump).run K.P w3= .ok (.bool jump.isNone) w4∧z4xb K base stH ks a l D g1.S w W1 st3.box O g3 w4∧w4.heap[l]? =some (.loop (rec (if jump.isNone then .ready else .done) jump))∧
       z1g g1.S W1 g1.S w4∧(∀b,O b→w4.heap[b]? =A.heap[b]?)∧A.heap.size≤w4.heap.size∧w4.os=A.os∧w4.tape=A.tape∧w4.output=A.output:=fun jump a3 w3 base3 st3 hE3 hR3 hend=>by
     obtain⟨g3,hI3,hS3,hO3,hd3,hsz3⟩:=hR3
     have hIr3:=hE3.inv _ _ _ hI3
     have hB3:=z8Ob hI2 hIr3
     have ap2:∀b,O b∨b=l∨b=D→z6J g3 b∧b<w3.heap.size∧w3.heap[b]? =w2.heap[b]? :=fun b hb=>by
      obtain⟨k1,k2⟩:=ap1 b hb
      rw[←hz2] at k2
      exact⟨z9xa hIr3 k2 k1,Nat.lt_of_lt_of_le k2 hIr3.fr.size,z3ha hIr3 k2 k1⟩
     have hl3:w3.heap[l]? =some (.loop {rec .ready none with state:= .busy}):=by rw[(ap2 l (.inr (.inl rfl))).2.2];exact hl2
     have hlt3:=(ap2 l (.inr (.inl rfl))).2.1
     obtain⟨w4,hw4⟩:∃w4,w4=w3.putObj l (.loop (rec (if jump.isNone then .ready else .done) jump)):=⟨_,rfl⟩
     have hrun:(Instr.endRound l jump).run K.P w3= .ok (.bool jump.isNone) w4:=by
      have:=run_endRound (P:=K.P) jump hl3
      rw[hw4,hrec] at*
      exact this
     have hf4:Fr w3.heap.size (fun b=>b=l) w3 w4:=by rw[hw4];exact z7Ca _ _ _
     have hfa4:∀b,b=l→z6J g3 b:=fun b hb=>by subst hb;exact(ap2 _ (.inr (.inl rfl))).1
     have hI4:Inv K base g3 w4 st3.getB:=z6kb hB3 hf4 fun b hb=>by subst hb;exact⟨(ap2 _ (.inr (.inl rfl))).1,hl0⟩
     have hlo3:∀b lo,g3.ow b=some lo→b<w3.heap.size:=fun b lo hb=>(hI3.owW b lo hb).2
     have blk:∀b,O b∨b=D→b≠l→w4.heap[b]? =A.heap[b]? :=fun b hb hne=>by
      have hb':O b∨b=l∨b=D:=hb.imp id .inr
      rw[hf4.block b (ap2 b hb').2.1 hne,(ap2 b hb').2.2,hf2.block b (ap1 b hb').2 hne,z3ha hIr (ho.apart b hb').2.2 (ho.apart b hb').1]
     have hOl:∀b,O b→b≠l:=fun b hb e=>ho.noL (e▸hb)
     have hDl:D≠l:=by omega
     have hkp:z1g g1.S W1 g3.S w4:=(((ho.kp.trans hIr.kp).trans (z4ta hf2 hfa2)).trans hIr3.kp).trans (z4ta hf4 hfa4)
     refine⟨g3,w4,hrun,⟨hI4,?_,fun b hb=> ?_,ho.noL,ho.noD,?_,hkp⟩,?_,fun b i v hi' hc=>⟨hi',(hkp b i v hi' hc).2⟩,fun b hb=>blk b (.inl hb) (hOl b hb),?_,?_,?_,?_⟩
     ·refine z50a (fun s hs=> ?_) (fun s d hs=>z6c.mono (z1q hI4) d _ (hOH s d hs))
      obtain⟨h1,h2⟩:=hend s hs
      have hv:=hO3 s _ h2
      simp only[z6c] at hv
      have:=z35a hf4 hfa4 hlo3 (hS3 s)
      rw[h1,hv] at this
      exact z74 this
     ·exact⟨(ap2 b hb).1,(ho.apart b hb).2.1,Nat.lt_of_lt_of_le (ap2 b hb).2.1 hf4.size⟩
     ·rw[blk D (.inr rfl) hDl];exact ho.blkD
     ·rw[hw4];exact World.putObj_heap_same hlt3
     ·exact Nat.le_trans hIr.fr.size (Nat.le_trans hf2.size (Nat.le_trans hIr3.fr.size hf4.size))
     ·rw[hf4.os,hIr3.fr.os,hf2.os,hIr.fr.os]
     ·rw[hf4.tape,hIr3.fr.tape,hf2.tape,hIr.fr.tape]
     ·rw[hf4.output,hIr3.fr.output,hf2.output,hIr.fr.output]
    intro e a3 w3 hl3
    cases e with
    |normal=>
     simp only[z2Pa] at hl3
     obtain⟨base3,hE3,st3,hR3,hq3⟩:=hl3
     simp only[z9Eb] at hq3
     obtain⟨g3,w4,k1,k2,k3,k4,k5,k6,k7,k8,k9⟩:=fin none a3 w3 base3 st3 hE3 hR3 hq3.1
     exact⟨_,w4,k1,k4,k5,k6,k7,k8,k9,.inl ⟨rfl,st3.box,g3,hq3.2,k2,k3⟩⟩
    |exit id=>
     simp only[z2Pa] at hl3
     obtain⟨base3,hE3,st3,hR3,hq3⟩:=hl3
     simp only[z9Eb] at hq3
     obtain⟨g3,w4,k1,k2,k3,k4,k5,k6,k7,k8,k9⟩:=fin (some (.exit id)) a3 w3 base3 st3 hE3 hR3 hq3.1
     exact⟨_,w4,k1,k4,k5,k6,k7,k8,k9,.inr ⟨rfl,st3.box,g3,.exit id,_,.inr ⟨id,rfl,rfl⟩,hq3.2,k2,k3⟩⟩
    |ret=>
     simp only[z2Pa] at hl3
     obtain⟨base3,hE3,st3,hR3,hq3⟩:=hl3
     simp only[z9Eb] at hq3
     obtain⟨g3,w4,k1,k2,k3,k4,k5,k6,k7,k8,k9⟩:=fin (some .ret) a3 w3 base3 st3 hE3 hR3 hq3.1
     exact⟨_,w4,k1,k4,k5,k6,k7,k8,k9,.inr ⟨rfl,st3.box,g3,.ret,_,.inl ⟨rfl,rfl⟩,hq3.2,k2,k3⟩⟩
    |goto id=>exact hl3.elim
    |panic ch=>exact hl3.elim
    |outgrown=>exact hl3.elim
   |exit id=>simp only[z2Pa,z4va] at hl1;obtain⟨_,_,_,_,h⟩:=hl1;exact h.elim
   |ret=>simp only[z2Pa,z4va] at hl1;obtain⟨_,_,_,_,h⟩:=hl1;exact h.elim
   |goto id=>exact hl1.elim
   |panic ch=>exact hl1.elim
   |outgrown=>exact hl1.elim
 have hx0:z1g g.S w g1.S W1:=fun b i v hi hc=>hx1.keeps b i v (by rw[hg0];exact hi) hc
 have hyr1:z4Lc K g1.S W1 lv B0 (epY st.getB lv y) vc.toList:=hyr.keep hx0 (fun i b hb=>(hB0ap i b hb).1) (by omega) (fun i b hb=>by
  have:=hB0lt i b hb
  rw[←hW1];exact(RowKit.Below.heap_alloc _ _ _ (by simp;omega)).trans (RowKit.Below.heap_alloc _ _ _ this))
 have hcall:=hV.2 g1.S W1 x (epY st.getB lv y) va.toList vc.toList B0 hI1.glob (z8c.mono hx0 x _ (z5d.pure x _ hpx hr1)) (by rw[←hlv];exact hyr1) hpre l J Jx N rounds
 rw[z2Sb] at hcall
 have fin:∀(bx:List (Nat×Option (List z2a))) (gB:Gh) (O:Nat→Prop) (B:World) (s:LoopState) (pe:Option Code),z4xb K base stH ks a l D g1.S w W1 bx O gB B→(∀b,(∃i,B0 i=some b)→O b)→(∀id∈ids,(lk bx id).join=none)→B.heap[l]? =some (.loop (rec s pe))→s≠ .busy→
   ∃w4,(Instr.endLoop l).run K.P B= .ok pe w4∧∃base',z5V K base base'∧Rel K base' n {org:=st.org,env:=z8r st ks,box:=bkB ids bx} {tmps:=a.tmps,defers:=[mark D]++a.defers} w4:=fun bx gB O B s pe ho hOO hnone hlB hs=>by
  have hrun:=run_endLoop (P:=K.P) hlB (by rw[hrec];exact hs)
  obtain⟨w4,hw4⟩:∃w4,w4=B.putObj l (.loop {rec s pe with state:= .exhausted}):=⟨_,rfl⟩
  rw[←hw4] at hrun
  have hal:=ho.apart l (.inr (.inl rfl))
  have haD:=ho.apart D (.inr (.inr rfl))
  have hf4:Fr B.heap.size (fun b=>b=l) B w4:=by rw[hw4];exact z7Ca _ _ _
  have hfa4:∀b,b=l→z6J gB b:=fun b hb=>by subst hb;exact hal.1
  have hI4:=z6kb ho.inv hf4 fun b hb=>by subst hb;exact⟨hal.1,hal.2.1⟩
  have hlo:∀b lo,gB.ow b=some lo→b<B.heap.size:=fun b lo hb=>(ho.inv.owW b lo hb).2
  have hpe:(rec s pe).pending=pe:=by rw[hrec];rfl
  rw[hpe] at hrun
  have hidl:∀id∈ids,∃i∈lv,y[i]? =some (.bp id 0):=fun id hid=>by rw[hids] at hid;exact z7ib.1 hid
  have hlt6:∀id∈ids,id<1000000:=fun id hid=>by
   obtain⟨i,hi,e⟩:=hidl id hid
   obtain⟨id',cs,e1,e2,_⟩:=hlive i hi
   rw[e] at e1;cases e1;exact e2
  have hB0id:∀id∈ids,∃i b,B0 i=some b∧g.mu id=some b:=fun id hid=>by
   obtain⟨i,hi,e⟩:=hidl id hid
   obtain⟨id',cs,e1,_,e3,_⟩:=hlive i hi
   rw[e] at e1;cases e1
   obtain⟨b,hb,_⟩:=hI.bxok id cs e3
   exact⟨i,b,by rw[hB0];simp only[lvB,if_pos hi,e];exact hb,hb⟩
  have hIE:=z5jc (g:=g) (o':=st.org) (e':=z8r st ks) hI4 hnone hlt6 hI.inj hI.old fun id hid=>by
   obtain⟨i,b,h1,h2⟩:=hB0id id hid
   have ha:=ho.apart b (.inl (hOO b ⟨i,h1⟩))
   exact⟨b,h2,ha.1,ha.2.1,Nat.lt_of_lt_of_le ha.2.2 hf4.size⟩
  have hmn:∀id∈ids,gB.mu id=none:=fun id hid=>hI4.nobx id (hnone id hid)
  have apE:∀b,z6J gB b→(∀i,B0 i≠some b)→z6J (z99 g gB ids) b:=fun b hb hne=>⟨hb.1,fun id=>by
   simp only[z99]
   split
   ·rename_i hid
    intro hm
    obtain⟨i,b',h1,h2⟩:=hB0id id hid
    rw[hm] at h2;cases h2
    exact hne i h1
   ·exact hb.2.1 id,hb.2.2⟩
  have hkE:z1g g.S w (z99 g gB ids).S w4:=fun b i v hi hc=>((hx0.trans ho.kp).trans (z4ta hf4 hfa4)) b i v hi hc
  refine⟨w4,hrun,⟨w4,Wr (z99 g gB ids),(z99 g gB ids).S,[D].map mark++base.dl,base.mu0⟩,z1Qb hIE [D] (by simp) (fun x hx=> ?_),z99 g gB ids,rebase hIE,?_,fun s d hs=>z6c.mono (z6da hIE) d _ (hO s d hs),?_,hsz⟩
  ·simp only[List.mem_singleton] at hx
   subst hx
   refine⟨hfr1,Nat.lt_of_lt_of_le haD.2.2 hf4.size,apE _ haD.1 (fun i hi=> ?_),?_⟩
   ·have:=hB0lt i _ hi;omega
   ·rw[hf4.block _ haD.2.2 (by omega)];exact ho.blkD
  ·refine z50a (fun s hs=> ?_) (fun s d hs=>z6c.mono (z1q hIE) d _ (hO s d hs))
   rcases hksI s hs with h2|h2
   ·have hv:=ho.slots s
    rw[z8Ab,if_pos hs] at hv
    rw[hstH,z2bc h2] at hv
    exact z2Fb hmn (z74 (z35a hf4 hfa4 hlo hv))
   ·have hr:=Rep.dem none (hS s)
    refine Rep.mono (g:=g) (g':=z99 g gB ids) hkE _ _ none none (fun id hid b hb=> ?_) (fun _ h=>by cases h) hr
    have hid':id∈z5m (st.get s):=by
     revert hid
     cases st.get s with
     |sl m _ _ _=>cases m<;>exact fun h=>h
     |otup=>exact fun h=>h
     |oagg=>intro h;simpa[Abs.dem,z5m,z9f,z1O] using h
     |_=>exact fun h=>h
    simp only[z99,if_pos (h2.1 id hid')]
    exact hb
  ·simp only[hd,List.map_cons,List.map_nil]
 refine⟨l,[mark D],W1,{target:= .fn (.func (K.nu f)) vc,args:=va++ #[.func (.yield l) #[] #[]]},W1,K.nu f,va++ #[.func (.yield l) #[] #[]]++vc,W1,?_,z6Rb hev (fun _=>rfl) l W1,fun _ _=>z3eb _ _,?_,fun h=>by simp[z5bb] at h,?_⟩
 ·have:=run_enterLoop_outer (P:=K.P) (w:=w) fn a.tmps qs p q
  rw[this,←hW1,hrec,hl,hD]
  rfl
 ·have:=z3y (P:=K.P) W1 hV.1 (va++ #[.func (.yield l) #[] #[]]++vc)
  simp only[invoke]
  exact this
 ·refine z36a.2 (hcall.mono fun e B hq=> ?_)
  obtain⟨v,rfl,O,hOO,hq⟩:=hq
  simp only[rangePost]
  rcases hq with⟨i,hel,bx,gB,hi,ho,hlB⟩|⟨bx,gB,e,jc,he,hq,ho,hlB⟩
  ·obtain⟨hq1,hq2⟩:=hIdone i bx hi hel
   obtain⟨w4,hrun,base',hE,hR'⟩:=fin bx gB O B .ready none ho hOO hq1 hlB (by simp)
   exact⟨none,w4,hrun,base',hE,_,hR',hq2⟩
  ·obtain⟨hq1,hq2⟩:=hq
   obtain⟨w4,hrun,base',hE,hR'⟩:=fin bx gB O B .done (some jc) ho hOO hq1 hlB (by simp)
   refine⟨some jc,w4,hrun,?_⟩
   rcases he with⟨rfl,rfl⟩|⟨id,rfl,rfl⟩
   ·exact wpIn_ret ⟨base',hE,_,hR',hq2⟩
   ·exact wpIn_exit ⟨base',hE,_,hR',hq2⟩
end
end Go.Abs
end

section
set_option linter.unusedVariables false
namespace Go.Abs
section
variable {K : Cx} {n : Nat}

theorem z5jb {keep:List Nat} {gs:List z9t} {xs:List z2b} {x:Code} {Q:z7h→ASt→Prop} {base:z3s} {st:ASt} {a:Act} {w:World} {r:Option Nat} {m:Nat} (hc:z0e K n (.region keep gs xs) x=true)
  (hv:∀p∈z7b (.region keep gs xs),VB K p) (hcd:gs.all z9t.cold=true) (h:awp K.E (.region keep gs xs) Q st) (hR:Rel K base n st a w):x.wpIn (WF r) m K.P (z2Pa K base n Q) a w:=by
 simp only[z0e] at hc
 simp only[awp] at h
 obtain⟨hok,hgs,hq⟩:=h
 split at hc
 ·rename_i id ops draw
  simp only[Bool.and_eq_true,Bool.or_eq_true,Bool.not_eq_true'] at hc
  obtain⟨hops,hdr⟩:=hc
  have hV':∀y∈xs,VOk K y.op:=fun y hy f hf=>hv f (by simp only[z7b,List.mem_flatMap];exact⟨y,hy,hf⟩)
  cases draw with
  |false=>
   refine wpIn_region ?_
   rw[List.range_eq_range']
   refine z8bb (Q:=z2Pa K base n Q) hops hV' ops.size 0 st a w (by omega) hR (by simpa using hok) fun a' w' hR'=>⟨base,z5V.refl _ _,_,z8Na gs hcd (z1B keep hR') (by simpa using hgs),by simpa using hq⟩
  |true=>
   rcases hdr with hdr|hdr
   ·cases hdr
   ·have hlen:=(z8W hops).1
    have hmap:(List.range ops.size).map (xs.getD · default)=xs:=by
     apply List.ext_getElem?
     intro i
     rw[List.getElem?_map]
     by_cases hi:i<ops.size
     ·rw[List.getElem?_range hi]
      have hi':i<xs.length:=by rw[←hlen];simpa using hi
      simp[List.getD,List.getElem?_eq_getElem hi']
     ·have hi':¬i<xs.length:=by rw[←hlen];simpa using hi
      rw[List.getElem?_eq_none (by simpa using hi),List.getElem?_eq_none (by omega)]
      rfl
    refine wpIn_region_any hdr.2 ?_
    have hR1:Rel K base n st a {w with drawn:=w.drawn+1}:=by
     obtain⟨g,hI,hS,hO⟩:=hR
     exact⟨g,z0Ca hI,z1ta.slots hS,hO⟩
    refine z2pb hops hV' hdr.1 ops.size (List.range ops.size) _ st a _ (by simp) (by simp) List.pairwise_lt_range (fun i=> ?_) hR1 (by rw[hmap];exact hok) (fun a' w' hR'=> ?_)
    ·simp only[List.mem_range]
     constructor
     ·intro hi
      refine⟨hi,?_⟩
      simp[Array.getD_eq_getD_getElem?,hi]
     ·exact fun h=>h.1
    ·rw[hmap] at hR'
     exact⟨base,z5V.refl _ _,_,z8Na gs hcd (z1B keep hR') hgs,hq⟩
 ·cases hc

theorem z6q:∀(c:z3a) (x:Code) (r:Option Nat) (m:Nat) (Q:z7h→ASt→Prop) (base:z3s) (st:ASt) (a:Act) (w:World),z0e K n c x=true→(∀p∈z7b c,VB K p)→(∀f∈z2F c,z0x K f (K.E.I f))→
  (z6m c=true∨r=none∧z8S c=true)→z0s c=true→awp K.E c Q st→Rel K base n st a w→x.wpIn (WF r) m K.P (z2Pa K base n Q) a w
 | .ghost g c,x,r,m,Q,base,st,a,w,hc,hv,hi,hf,hcd,h,hR=>by
  simp only[z0e] at hc
  simp only[awp] at h
  exact z6q c x r m Q base _ a w hc hv hi (by simpa only[z6m,z8S] using hf) (by simp only[z0s,Bool.and_eq_true] at hcd;exact hcd.2) h.2 (z5B g (by simp only[z0s,Bool.and_eq_true] at hcd;exact hcd.1) hR h.1)
 | .thawc b i id c,x,r,m,Q,base,st,a,w,hc,hv,hi,hf,hcd,h,hR=>by simp[z0s] at hcd
 | .holdc s t c,x,r,m,Q,base,st,a,w,hc,hv,hi,hf,hcd,h,hR=>by
  simp only[z0e] at hc
  simp only[awp] at h
  obtain⟨V,h1,h2⟩:=h
  obtain⟨V',h3,h4⟩:=z4ib s t hR h1
  exact z6q c x r m Q base _ a w hc hv hi (by simpa only[z6m,z8S] using hf) (by simpa only[z0s] using hcd) (h2 V' h3) h4
 | .skip,x,r,m,Q,base,st,a,w,hc,hv,hi,hf,hcd,h,hR=>by
  simp only[z0e] at hc
  simp only[awp] at h
  split at hc
  ·exact wpIn_skip ⟨base,z5V.refl _ _,st,hR,h⟩
  ·exact wpIn_label ⟨base,z5V.refl _ _,st,hR,h⟩
  ·cases hc
 | .exit id,x,r,m,Q,base,st,a,w,hc,hv,hi,hf,hcd,h,hR=>by
  simp only[z0e] at hc
  simp only[awp] at h
  split at hc
  ·simp only[beq_iff_eq] at hc
   subst hc
   exact wpIn_exit ⟨base,z5V.refl _ _,st,hR,h⟩
  ·cases hc
 | .ret,x,r,m,Q,base,st,a,w,hc,hv,hi,hf,hcd,h,hR=>by
  simp only[z0e] at hc
  simp only[awp] at h
  split at hc
  ·exact wpIn_ret ⟨base,z5V.refl _ _,st,hR,h⟩
  ·cases hc
 | .bad,x,r,m,Q,base,st,a,w,hc,hv,hi,hf,hcd,h,hR=>by
  simp only[awp] at h
 | .alt p q,x,r,m,Q,base,st,a,w,hc,hv,hi,hf,hcd,h,hR=>by
  simp only[z0e,Bool.and_eq_true] at hc
  simp only[awp] at h
  simp only[z7b,z2F,List.mem_append] at hv hi
  simp only[z6m,z8S,Bool.and_eq_true] at hf
  simp only[z0s,Bool.and_eq_true] at hcd
  rcases h with h|h
  ·exact z6q p x r m Q base st a w hc.1 (fun f hf=>hv f (.inl hf)) (fun f hf=>hi f (.inl hf)) (hf.imp (·.1) fun h=>⟨h.1,h.2.1⟩) hcd.1 h hR
  ·exact z6q q x r m Q base st a w hc.2 (fun f hf=>hv f (.inr hf)) (fun f hf=>hi f (.inr hf)) (hf.imp (·.2) fun h=>⟨h.1,h.2.2⟩) hcd.2 h hR
 | .region keep gs xs,x,r,m,Q,base,st,a,w,hc,hv,hi,hf,hcd,h,hR=>z5jb hc hv (by simpa only[z0s] using hcd) h hR
 | .seq p q,x,r,m,Q,base,st,a,w,hc,hv,hi,hf,hcd,h,hR=>by
  simp only[z0e] at hc
  simp only[awp] at h
  simp only[z7b,z2F,List.mem_append] at hv hi
  simp only[z6m,z8S,Bool.and_eq_true] at hf
  simp only[z0s,Bool.and_eq_true] at hcd
  split at hc
  ·rename_i y z
   simp only[Bool.and_eq_true] at hc
   refine wpIn_seq (wpIn_mono (z6q p y r m _ base st a w hc.1 (fun f hf=>hv f (.inl hf)) (fun f hf=>hi f (.inl hf)) (hf.imp (·.1) fun h=>⟨h.1,h.2.1⟩) hcd.1 h hR) ?_)
   intro e a' w' hl
   cases e<;>simp only[z2Pa] at hl<;>simp only[Exit.then]
   ·obtain⟨b',hE,st',hR',hq⟩:=hl
    exact wpIn_mono (z6q q z r m Q b' st' a' w' hc.2 (fun f hf=>hv f (.inr hf)) (fun f hf=>hi f (.inr hf)) (hf.imp (·.2) fun h=>⟨h.1,h.2.2⟩) hcd.2 hq hR') (z2sb hE)
   ·exact hl
   ·exact hl
  ·cases hc
 | .cond c p q,x,r,m,Q,base,st,a,w,hc,hv,hi,hf,hcd,h,hR=>by
  simp only[z0e] at hc
  simp only[awp] at h
  simp only[z7b,z2F,List.mem_append] at hv hi
  simp only[z6m,z8S,Bool.and_eq_true] at hf
  simp only[z0s,Bool.and_eq_true] at hcd
  split at hc
  ·rename_i c' y z
   simp only[Bool.and_eq_true] at hc
   obtain⟨⟨hcc,hy⟩,hz⟩:=hc
   obtain⟨hb,ht,hf'⟩:=h
   have hR':=hR
   obtain⟨g,hI,hS,_⟩:=hR'
   obtain⟨_,hval⟩:=z4ga (z9b hI hS hcc) hb
   refine wpIn_cond_split hval (fun e=> ?_) (fun e=> ?_)
   ·exact z6q p y r m Q base st a w hy (fun f hf=>hv f (.inl hf)) (fun f hf=>hi f (.inl hf)) (hf.imp (·.1) fun h=>⟨h.1,h.2.1⟩) hcd.1 (ht e) hR
   ·exact z6q q z r m Q base st a w hz (fun f hf=>hv f (.inr hf)) (fun f hf=>hi f (.inr hf)) (hf.imp (·.2) fun h=>⟨h.1,h.2.2⟩) hcd.2 (hf' e) hR
  ·cases hc
 | .scope b,x,r,m,Q,base,st,a,w,hc,hv,hi,hf,hcd,h,hR=>by
  simp only[z0e] at hc
  simp only[awp] at h
  simp only[z6m,z8S] at hf
  simp only[z0s] at hcd
  split at hc
  ·rename_i p
   refine z48a (wpIn_mono (z6q b p r m Q base st a w hc hv hi hf hcd h hR) ?_)
   intro e a' w' hl
   cases e<;>simp only[z2Pa] at hl<;>exact hl
  ·cases hc
 | .block id b,x,r,m,Q,base,st,a,w,hc,hv,hi,hf,hcd,h,hR=>by
  simp only[z0e] at hc
  simp only[awp] at h
  simp only[z6m,z8S] at hf
  simp only[z0s] at hcd
  split at hc
  ·rename_i id' p
   simp only[Bool.and_eq_true,beq_iff_eq] at hc
   obtain⟨rfl,hp⟩:=hc
   refine wpIn_block (wpIn_mono (z6q b p r m _ base st a w hp hv hi hf hcd h hR) ?_)
   intro e a' w' hl
   cases e<;>simp only[z2Pa] at hl<;>simp only[Exit.inBlock]
   ·exact hl
   ·rename_i id'
    obtain⟨b',hE,st',hR',hq⟩:=hl
    simp only[z1Na] at hq
    split
    ·rename_i he
     rw[if_pos he] at hq
     exact⟨b',hE,st',hR',hq⟩
    ·rename_i he
     rw[if_neg he] at hq
     exact⟨b',hE,st',hR',hq⟩
   ·exact hl
  ·cases hc
 | .loop b,x,r,m,Q,base,st,a,w,hc,hv,hi,hf,hcd,h,hR=>by
  simp only[z0e] at hc
  simp only[awp] at h
  simp only[z6m,z8S] at hf
  simp only[z0s] at hcd
  split at hc
  ·rename_i p
   obtain⟨I,⟨k,hm⟩,hround⟩:=h
   refine z2ia (fun k a w=>∃b',z5V K base b'∧∃st,Rel K b' n st a w∧I k st) ⟨base,z5V.refl _ _,st,hR,hm⟩ fun k a w hj=> ?_
   obtain⟨b',hE,st',hR',hI⟩:=hj
   refine wpIn_mono (z6q b p r m _ b' st' a w hc hv hi hf hcd (hround _ st' hI) hR') ?_
   intro e a' w' hl
   have hl:=z2sb hE e a' w' hl
   cases e<;>simp only[z2Pa] at hl<;>simp only[Exit.then]
   ·obtain⟨b2,hE2,st2,hR2,m',hlt,hI'⟩:=hl
    exact⟨m',hlt,b2,hE2,st2,hR2,hI'⟩
   ·exact hl
   ·exact hl
  ·cases hc
 | .range f t ks ps as bd,x,r,m,Q,base,st,a,w,hc,hv,hi,hf,hcd,h,hR=>by
  simp only[z0e] at hc
  simp only[z7b,z2F,List.mem_append,List.mem_cons] at hv hi
  simp only[z6m,z8S,Bool.false_eq_true,false_or,Bool.and_eq_true] at hf
  simp only[z0s,Bool.and_eq_true] at hcd
  obtain⟨rfl,hfa,hfb⟩:=hf
  split at hc
  ·rename_i G qs p q
   simp only[Bool.and_eq_true,beq_iff_eq,decide_eq_true_eq,List.all_eq_true] at hc
   obtain⟨⟨⟨⟨⟨hg,hps⟩,hlt⟩,hnd⟩,hca⟩,hcb⟩:=hc
   exact z9vb hg hps hlt hnd (hi f (.inl rfl))
    (fun l m' base st a w Q h hR=>z6q as p (some l) m' Q base st a w hca (fun p hp=>hv p (.inl hp)) (fun p hp=>hi p (.inr (.inl hp))) (.inl hfa) hcd.1 h hR)
    (fun l m' base st a w Q h hR=>z6q bd q (some l) m' Q base st a w hcb (fun p hp=>hv p (.inr hp)) (fun p hp=>hi p (.inr (.inr hp))) (.inl hfb) hcd.2 h hR) h hR
  ·cases hc

theorem z52a {F:Fence} {q:Nat} {P:Program} {fn:Func} {tmps:Array Value} {R:Ending→World→Prop}:∀(ms:List Nat) (w:World),(∀D∈ms,w.heap[D]? =some (.deferred (some [])))→ms.Nodup→
  (∀w',Fr w.heap.size (fun b=>b∈ms) w w'→∃v,(results fn tmps).run P w'= .ok v w'∧R (.returned v) w')→LeavesInM F q P fn tmps R (ms.map mark) .returning w
 |[],w,_,_,h=>h w (Fr.refl _ _ _)
 |D::ms,w,hD,hn,h=>by
  rw[List.nodup_cons] at hn
  refine⟨by simp,.inl ⟨D,w.putObj D (.deferred none),rfl,run_takeDeferred (hD D (by simp)),?_⟩⟩
  have hf:=z7Ca w D (.deferred none)
  have hlt:∀x∈ms,x<w.heap.size:=fun x hx=>by
   have:=hD x (by simp[hx])
   exact(Array.getElem?_eq_some_iff.1 this).1
  refine z52a ms _ (fun x hx=> ?_) hn.2 (fun w' hw'=>h w' ?_)
  ·rw[hf.block x (hlt x hx) (fun e=>hn.1 (e▸hx))]
   exact hD x (by simp[hx])
  ·exact(hf.mono (Nat.le_refl _) (fun k _ e=>by subst e;simp)).trans (hw'.mono (by simp[World.putObj]) (fun k _ e=>by simp[e]))

theorem z6Qb {base base':z3s} {st:ASt} {a:Act} {w:World} {q:Nat} {fn:Func} {R:Ending→World→Prop} (hE:z5V K base base') (hdl:base.dl=[]) (hR:Rel K base' n st a w)
  (h:∀g w',Inv K base g w' st.getB→z3e K g w' st.get a→z8Xb K base' st a→∃v,(results fn a.tmps).run K.P w'= .ok v w'∧R (.returned v) w'):LeavesInM (WF none) q K.P fn a.tmps R a.defers .returning w:=by
 obtain⟨g,hI,hS,hO,hd,_⟩:=hR
 obtain⟨ms,e,hn,h1,h2⟩:=hE.marks
 have h3:=h2 g w _ hI
 rw[hd,e,hdl,List.append_nil]
 refine z52a ms w (fun D hD=>(h3 D hD).2.2) hn fun w' hw'=>h g w' ?_ ?_ hO
 ·exact z6kb (hE.inv _ _ _ hI) hw' fun b hb=>⟨(h3 b hb).1,.inl (h1 b hb).1⟩
 ·exact fun s=>z35a hw' (fun b hb=>(h3 b hb).1) (fun b l hb=>(hI.owW b l hb).2) (hS s)
end
end Go.Abs
end

section
set_option linter.unusedVariables false
namespace Go.Abs
section
variable {K : Cx} {base : z3s} {n : Nat} {st : ASt} {a : Act} {w : World}

theorem z1Ub {st:ASt} (h:∀p∈st.env,z5e p.2=false) (s:Nat):z5e (st.get s)=false:=by
 unfold ASt.get
 cases hl:lk st.env s with
 |some d=>exact h _ (z00 hl)
 |none=>exact z4M _
theorem z2Sa {st:ASt} {id:Nat} {cs:List z2a} (h:st.getB id=some cs):(id,some cs)∈st.box:=by
 simp only[ASt.getB] at h
 cases hl:lk st.box id with
 |none=>rw[hl] at h;cases h
 |some o=>rw[hl] at h;simp only[Option.join_some] at h;subst h;exact z00 hl
theorem z8Oc {g:Gh} {bx:Nat→Option (List z2a)} (hI:Inv K base g w bx) {id b:Nat} (h:g.mu id=some b):g.S b=0:=by
 cases hb:bx id with
 |none=>rw[hI.nobx id hb] at h;cases h
 |some cs=>
  obtain⟨b',h1,h2,_⟩:=hI.bxok id cs hb
  rw[h] at h1;cases h1;exact h2
theorem z8Pb (ks:List Nat) (hR:Rel K base n st a w) (hok:z7y (.rebase ks) st):∃base',z5V K base base'∧z1Za K base'∧Rel K base' n (z1b (.rebase ks) st) a w:=by
 obtain⟨g,hI,hS,hO,hd,hn⟩:=hR
 obtain⟨hk,he,hbx⟩:=hok
 let g':Gh:={g with ow:=fun _=>none}
 have top:∀{d:z2a} {v:Value} {l l':Option Loc},z5e d=false→Rep K.toCon g w l d v→Rep K.toCon g' w l' d v:=fun {d v l l'} ho hr=>
  z8T l' ho (Rep.mono (g:=g) (g':=g') (z1g.refl _ _) d v none none (fun _ _ _ h=>h) (fun _ h=>by cases h) (z74 hr))
 have hI':Inv K base g' w st.getB:=by
  refine⟨hI.fr,hI.sS,hI.inj,fun id cs hc=> ?_,hI.nobx,fun id b hb=> ?_,fun b l hb=>(by cases hb),hI.glob,hI.kp,fun id b cs ho hb hc hd'=> ?_,hI.old⟩
  ·obtain⟨b,k1,k2,k3⟩:=hI.bxok id cs hc
   refine⟨b,k1,k2,fun i d hi=> ?_⟩
   obtain⟨⟨x,hx,hr⟩,hz⟩:=k3 i d hi
   exact⟨⟨x,hx,top ((hbx _ (z2Sa hc)).2 cs rfl d (z7j hi)) hr⟩,hz⟩
  ·obtain⟨k1,k2,_⟩:=hI.muW id b hb
   exact⟨k1,k2,rfl⟩
  ·have:=(hbx _ (z2Sa hc)).1
   simp only at this
   omega
 have hW:∀b,Wr g' b→g.S b=0:=fun b hb=>by
  rcases hb with⟨id,h⟩|h
  ·exact z8Oc hI h
  ·exact absurd rfl h
 have hkS:z1g g.S w (z3s.S ⟨w,Wr g',g'.S,base.dl,base.mu0⟩) w:=fun b i x hi hc=>by
  refine⟨?_,hc⟩
  unfold z3s.S
  rw[if_pos ⟨World.block_lt_of_cell? w ⟨b,i,none⟩ hc,fun h=>by have:=hW b h;omega⟩]
  exact hi
 have hB:=rebase (dl:=base.dl) hI'
 refine⟨⟨w,Wr g',g'.S,base.dl,base.mu0⟩,⟨fun g2 w2 bx h=>z8Ob hI' h,z6da hI',hI'.fr,fun b hb hlt=>(z5pa hI' hb).resolve_left (by omega),[],by simp,List.nodup_nil,by simp,fun _ _ _ _ D hD=>by cases hD⟩,⟨hW,hI.glob⟩,g',hB,fun s=> ?_,fun s d hs=> ?_,hd,hn⟩
 ·have hg:(z1b (.rebase ks) st).get s=if s∈ks then dem (st.get s) else st.get s:=by
   show(match lk (st.env.filter fun p=> !ks.contains p.1) s with|some d=>d|none=>dem ((lk ((ks.map fun s=>(s,st.get s))++st.org) s).getD .undef))=_
   rw[z4n (fun k=> !ks.contains k)]
   by_cases h:s∈ks
   ·have:lk ((ks.map fun s=>(s,st.get s))++st.org) s=some (st.get s):=by
     rw[z8g,z4f,if_pos h];rfl
    simp[h,this]
   ·have:lk ((ks.map fun s=>(s,st.get s))++st.org) s=lk st.org s:=by
     rw[z8g,z4f,if_neg h];rfl
    rw[if_pos (by simpa using h),this,if_neg h];rfl
  rw[hg]
  split
  ·exact top (z4M _) (Rep.dem none (hS s))
  ·exact top (z1Ub he s) (hS s)
 ·have hl:lk (z1b (.rebase ks) st).org s=if s∈ks then some (st.get s) else lk st.org s:=by
   show lk ((ks.map fun s=>(s,st.get s))++st.org) s=_
   rw[z8g,z4f]
   by_cases h:s∈ks
   ·rw[if_pos h,if_pos h];rfl
   ·rw[if_neg h,if_neg h];rfl
  rw[hl] at hs
  split at hs
  ·rename_i h
   cases hs
   exact z6c.mono hkS _ _ (Rep.pure _ _ _ (hk s h).1 (hS s))
  ·exact z6c.mono (z6da hI') d _ (hO s d hs)

structure z7Cd (K:Cx) (base:z3s) (g g':Gh) (w:World) (id b:Nat) (L:Loc):Prop where
 keeps:z1g g.S w g'.S w
 rep:∀{d:z2a} {v:Value} {l:Loc},id∉z5m d→Rep K.toCon g w (some l) d v→Rep K.toCon g' w (some l) d v
theorem z4rb {g:Gh} {bx:Nat→Option (List z2a)} (hI:Inv K base g w bx) {id:Nat} (h5:500000≤id) (h6:id<1000000) {e n c:Nat} {l:List z2a} (hl:bx id=some l) (hnc:n≤c) (hll:l.length=c*e) (hmf:z6b (l.take (n*e))=true) (L:Loc) {v:Value} {l0:Option Loc}
  (hrv:Rep K.toCon g w l0 (.bv id e 0 n c) v):∃(b:Nat) (g':Gh),g.mu id=some b∧g'={S:=fun x=>if x=b then n*e else g.S x,ow:=fun x=>if x=b then some L else g.ow x,mu:=fun j=>if j=id then none else g.mu j}∧z7Cd K base g g' w id b L∧
   Rep K.toCon g' w (some L) (.sl (.own e) none n (l.take (n*e))) v∧
   ∀bx':Nat→Option (List z2a),(bx' id=none)→(∀j,1000000≤j→bx' j=bx j)→(∀j,j≠id→(bx' j).isSome=(bx j).isSome)→
    (∀j cs,bx' j=some cs→∃b',g.mu j=some b'∧g.S b'=0∧∀i d,cs[i]? =some d→(∃x,w.cell? ⟨b',i,none⟩=some x∧Rep K.toCon g' w (some (.cell j i)) d x)∧w.frozen? ⟨b',i,none⟩=false)→Inv K base g' w bx':=by
 obtain⟨b,k1,k2,k3⟩:=hI.bxok id l hl
 simp only[Rep] at hrv
 obtain⟨b',cap,o,hb',hv,hncap,hccap,ho,hex⟩:=hrv
 rw[k1] at hb';cases hb'
 have hcap:=hex h5
 subst hcap
 have howb:=(hI.muW id b k1).2.2
 obtain⟨hwb,hbsz,_⟩:=hI.muW id b k1
 let g':Gh:={S:=fun x=>if x=b then n*e else g.S x,ow:=fun x=>if x=b then some L else g.ow x,mu:=fun j=>if j=id then none else g.mu j}
 have hk:z1g g.S w g'.S w:=fun b'' i x hi hc=>by
  refine⟨?_,hc⟩
  have:b''≠b:=fun e=>by subst e;omega
  simp only[g',if_neg this];exact hi
 have rep:∀{d:z2a} {v:Value} {l:Loc},id∉z5m d→Rep K.toCon g w (some l) d v→Rep K.toCon g' w (some l) d v:=fun {d v l} hr h=>
  Rep.mono (g:=g) (g':=g') hk d v (some l) (some l) (fun j hj b'' hb''=>by have:j≠id:=fun e=>hr (e▸hj);simp only[g',if_neg this];exact hb'') (fun m hm=>⟨m,hm,fun b'' hb''=>by
   have:b''≠b:=fun e=>by rw[e,howb] at hb'';cases hb''
   exact⟨by simp only[g',if_neg this];exact hb'',by simp only[g',if_neg this],fun _ _ h=>h⟩⟩) h
 have hle:n*e≤c*e:=Nat.mul_le_mul_right _ hnc
 have hcells:z9d K.toCon g'.S w (l.take (n*e)) b 0:=z9d.mk fun i d hi=>by
  have hi':=hi
  rw[List.getElem?_take] at hi'
  split at hi'
  ·rename_i hlt
   obtain⟨⟨x,hx,hr⟩,_⟩:=k3 i d hi'
   rw[Nat.zero_add]
   refine⟨by simp only[g',if_true];exact hlt,x,hx,?_⟩
   have hmd:z5b d=true:=z5Ra hmf (z7j hi)
   exact Rep.pure (g:=g') d x none (z40a d hmd) (z5M (g':=g') (w':=w) d x _ none hmd hr)
  ·cases hi'
 have hth:w.there b 0 (c*e):=fun j hj=>by
  obtain⟨⟨x,hx,_⟩,hz⟩:=k3 j _ (List.getElem?_eq_getElem (by omega))
  rw[Nat.zero_add]
  exact⟨by rw[hx];rfl,hz⟩
 refine⟨b,g',k1,rfl,⟨hk,rep⟩,?_,fun bx' h1 h2 h3 h4=> ?_⟩
 ·simp only[Rep]
  by_cases hc0:n=0∧c=0
  ·obtain⟨rfl,rfl⟩:=hc0
   have hnil:l.take (0*e)=[]:=by rw[Nat.zero_mul];rfl
   rw[hnil]
   subst hv
   exact⟨by simp only[z6c];exact .inr ⟨_,rfl,trivial,trivial,by simp⟩,fun l' _=> .inl (.inr ⟨⟨_,rfl⟩,rfl⟩)⟩
  ·have ho0:o=0:=ho.resolve_right hc0
   subst ho0
   refine⟨by simp only[z6c];exact .inl ⟨b,0,c,hv,hncap,hcells,by simp,by simp⟩,fun l' hl'=> .inr ?_⟩
   cases hl'
   exact⟨b,c,hv,hncap,by rw[List.length_take,hll,Nat.min_eq_left hle],by simp only[g',if_true],by simp only[g',if_true],hth⟩
 ·refine⟨hI.fr,fun b'' hb'' hw=> ?_,fun i j x hi hj=> ?_,fun j cs hj=> ?_,fun j hj=> ?_,fun j x hx=> ?_,fun x L' hx=> ?_,fun m hm=>z9d.mono hk _ _ _ (hI.glob m hm),hI.kp.trans hk,fun j x cs ho' hb' hc hd=> ?_,fun j x h1 h2 hx=>by
  simp only[g'] at hx
  split at hx
  ·cases hx
  ·exact hI.old j x h1 h2 hx⟩
  ·have:b''≠b:=fun e=>by
    subst e
    rcases hwb with h|h
    ·omega
    ·exact hw h
   simp only[g',if_neg this]
   exact hI.sS b'' hb'' hw
  ·simp only[g'] at hi hj
   split at hi
   ·cases hi
   ·split at hj
    ·cases hj
    ·exact hI.inj i j x hi hj
  ·obtain⟨b2,q1,q2,q3⟩:=h4 j cs hj
   have hjid:j≠id:=fun e=>by rw[e,h1] at hj;cases hj
   have hbb:b2≠b:=fun e=>hjid (hI.inj _ _ _ (e▸q1) k1)
   exact⟨b2,by simp only[g',if_neg hjid];exact q1,by simp only[g',if_neg hbb];exact q2,q3⟩
  ·by_cases hjid:j=id
   ·simp only[g',if_pos hjid]
   ·simp only[g',if_neg hjid]
    refine hI.nobx j ?_
    have:=h3 j hjid
    rw[hj] at this
    cases hbj:bx j with
    |none=>rfl
    |some _=>rw[hbj] at this;cases this
  ·simp only[g'] at hx
   split at hx
   ·cases hx
   ·rename_i hjid
    obtain⟨q1,q2,q3⟩:=hI.muW j x hx
    have:x≠b:=fun e=>hjid (hI.inj _ _ _ (e▸hx) k1)
    exact⟨q1,q2,by simp only[g',if_neg this];exact q3⟩
  ·simp only[g'] at hx
   split at hx
   ·rename_i he;subst he;exact⟨hwb,hbsz⟩
   ·exact hI.owW x L' hx
  ·have hjid:j≠id:=fun e=>by omega
   rw[h2 j ho'] at hc
   simp only[g',if_neg hjid] at hb'
   refine z9ga.keep (hI.obok j x cs ho' hb' hc hd) rfl fun q hq=>⟨?_,rfl⟩
   have hqb:q≠b:=fun e=>by rw[e,howb] at hq;cases hq
   simp only[g',if_neg hqb];exact hq

theorem z7dc {id:Nat} {cs:Option (List z2a)} {d:z2a} (h:z8Rd id cs d):∃e n c l,d= .bv id e 0 n c∧n≤c∧cs=some l∧l.length=c*e∧z6b (l.take (n*e))=true:=by
 unfold z8Rd at h
 split at h
 ·obtain⟨rfl,rfl,h1,l,h2,h3,h4⟩:=h
  exact⟨_,_,_,l,rfl,h1,h2,h3,h4⟩
 ·exact h.elim
theorem z9bc (b0 i0 id:Nat) (hR:Rel K base n st a w) (hok:z7y (.coolB b0 i0 id) st):Rel K base n (z1b (.coolB b0 i0 id) st) a w:=by
 obtain⟨g,hI,hS,hO,h⟩:=hR
 obtain⟨h5,h6,hb5,hmid,henv,hbox⟩:=hok
 cases hgb:st.getB b0 with
 |none=>rw[hgb] at hmid;exact hmid.elim
 |some bs=>
 rw[hgb] at hmid
 obtain⟨hilt,hbv,hnr⟩:=hmid
 obtain⟨e,m,c,l,hget,hnc,hl,hll,hmf⟩:=z7dc hbv
 have hgi:bs[i0]? =some (.bv id e 0 m c):=by
  rw[List.getElem?_eq_getElem hilt]
  rw[List.getD_eq_getElem?_getD,List.getElem?_eq_getElem hilt] at hget
  exact congrArg some hget
 obtain⟨bb,kb1,kb2,kb3⟩:=hI.bxok b0 bs hgb
 obtain⟨⟨v,hvc,hrv⟩,hfzv⟩:=kb3 i0 _ hgi
 obtain⟨b,g',hmu,hg',⟨hk,rep⟩,hown,mkI⟩:=z4rb hI h5 h6 hl hnc hll hmf (.cell b0 i0) hrv
 have hrun:z1b (.coolB b0 i0 id) st={st with box:=(b0,some (bs.set i0 (.sl (.own e) none m (l.take (m*e)))))::(id,none)::st.box}:=by
  simp only[z1b,hgb,hget,hl,Option.getD_some]
 rw[hrun]
 have hne:b0≠id:=by omega
 have hgetB:∀j,({st with box:=(b0,some (bs.set i0 (.sl (.own e) none m (l.take (m*e)))))::(id,none)::st.box}:ASt).getB j=if j=b0 then some (bs.set i0 (.sl (.own e) none m (l.take (m*e)))) else if j=id then none else st.getB j:=fun j=>by
  simp only[ASt.getB,lk]
  split
  ·rfl
  ·split<;>rfl
 have hI':=mkI ({st with box:=(b0,some (bs.set i0 (.sl (.own e) none m (l.take (m*e)))))::(id,none)::st.box}:ASt).getB (by rw[hgetB,if_neg (by omega),if_pos rfl]) (fun j hj=>by rw[hgetB,if_neg (by omega),if_neg (by omega)])
  (fun j hj=>by
   rw[hgetB]
   by_cases hjb:j=b0
   ·subst hjb;rw[if_pos rfl,hgb];rfl
   ·rw[if_neg hjb,if_neg hj]) (fun j cs hj=>by
   rw[hgetB] at hj
   split at hj
   ·rename_i hjb
    subst hjb
    cases hj
    refine⟨bb,kb1,kb2,fun i d hi=> ?_⟩
    have hi0:=hi
    rw[List.getElem?_set] at hi
    split at hi
    ·rename_i he
     subst he
     first|(rw[if_pos hilt] at hi;cases hi)|cases hi
     exact⟨⟨v,hvc,hown⟩,hfzv⟩
    ·rename_i hne'
     obtain⟨⟨y,h4,h5'⟩,h6'⟩:=kb3 i d hi
     refine⟨⟨y,h4,rep (fun hr=>hnr (z1Z (List.mem_of_getElem? (i:=i) (by rw[List.getElem?_set,if_neg hne'];exact hi)) hr)) h5'⟩,h6'⟩
   ·rename_i hjb
    split at hj
    ·cases hj
    ·rename_i hjid
     obtain⟨b2,q1,q2,q3⟩:=hI.bxok j cs hj
     refine⟨b2,q1,q2,fun i d hi=> ?_⟩
     obtain⟨⟨y,h4,h5'⟩,h6'⟩:=q3 i d hi
     refine⟨⟨y,h4,rep (fun hr=> ?_) h5'⟩,h6'⟩
     rcases hbox _ (z2Sa hj) cs rfl with h|h|h
     ·exact hjid h
     ·exact hjb h
     ·exact h (z1Z (z7j hi) hr))
 refine⟨g',hI',fun t=> ?_,hO,h⟩
 have hgt:({st with box:=(b0,some (bs.set i0 (.sl (.own e) none m (l.take (m*e)))))::(id,none)::st.box}:ASt).get t=st.get t:=rfl
 rw[hgt]
 cases hlt:lk st.env t with
 |some d=>
  have h1:=hS t
  have hd:st.get t=d:=by unfold ASt.get;rw[hlt]
  rw[hd] at h1⊢
  exact rep (henv _ (z00 hlt)) h1
 |none=>
  have hd:st.get t=dem ((lk st.org t).getD .undef):=by unfold ASt.get;rw[hlt]
  rw[hd]
  cases hs:lk st.org t with
  |none=>simp[Abs.dem,Rep]
  |some d=>exact z6c.dem (g:=g') _ (z6c.mono (z1q hI') d _ (hO t d hs))
theorem z6mc (s id:Nat) (hR:Rel K base n st a w) (hok:z7y (.cool s id) st):Rel K base n (z1b (.cool s id) st) a w:=by
 obtain⟨g,hI,hS,hO,h⟩:=hR
 obtain⟨h5,h6,hbv,henv,hbox⟩:=hok
 obtain⟨e,m,c,l,hget,hnc,hl,hll,hmf⟩:=z7dc hbv
 have hrv:=hS s
 rw[hget] at hrv
 obtain⟨b,g',hmu,hg',⟨hk,rep⟩,hown,mkI⟩:=z4rb hI h5 h6 hl hnc hll hmf (.slot s) hrv
 have hrun:z1b (.cool s id) st={st with env:=(s,.sl (.own e) none m (l.take (m*e)))::st.env,box:=(id,none)::st.box}:=by
  simp only[z1b,hget,hl,Option.getD_some]
 rw[hrun]
 have hgetB:∀j,({st with env:=(s,z2a.sl (.own e) none m (l.take (m*e)))::st.env,box:=(id,none)::st.box}:ASt).getB j=if j=id then none else st.getB j:=fun j=>by
  simp only[ASt.getB,lk]
  split<;>rfl
 have hI':=mkI ({st with env:=(s,z2a.sl (.own e) none m (l.take (m*e)))::st.env,box:=(id,none)::st.box}:ASt).getB (by rw[hgetB,if_pos rfl]) (fun j hj=>by rw[hgetB,if_neg (by omega)])
  (fun j hj=>by rw[hgetB,if_neg hj]) (fun j cs hj=>by
   rw[hgetB] at hj
   split at hj
   ·cases hj
   ·rename_i hjid
    obtain⟨b2,q1,q2,q3⟩:=hI.bxok j cs hj
    refine⟨b2,q1,q2,fun i d hi=> ?_⟩
    obtain⟨⟨y,h4,h5'⟩,h6'⟩:=q3 i d hi
    refine⟨⟨y,h4,rep (fun hr=> ?_) h5'⟩,h6'⟩
    rcases hbox _ (z2Sa hj) cs rfl with h|h
    ·exact hjid h
    ·exact h (z1Z (z7j hi) hr))
 refine⟨g',hI',fun t=> ?_,hO,h⟩
 by_cases ht:t=s
 ·subst ht
  have hgt:({st with env:=(t,z2a.sl (.own e) none m (l.take (m*e)))::st.env,box:=(id,none)::st.box}:ASt).get t= .sl (.own e) none m (l.take (m*e)):=by
   simp[ASt.get,lk]
  rw[hgt]
  exact hown
 ·have hgt:({st with env:=(s,z2a.sl (.own e) none m (l.take (m*e)))::st.env,box:=(id,none)::st.box}:ASt).get t=st.get t:=by
   simp only[ASt.get,lk,if_neg ht]
  rw[hgt]
  cases hlt:lk st.env t with
  |some d=>
   have h1:=hS t
   have hd:st.get t=d:=by unfold ASt.get;rw[hlt]
   rw[hd] at h1⊢
   exact rep ((henv _ (z00 hlt)).resolve_left ht) h1
  |none=>
   have hd:st.get t=dem ((lk st.org t).getD .undef):=by unfold ASt.get;rw[hlt]
   rw[hd]
   cases hs:lk st.org t with
   |none=>simp[Abs.dem,Rep]
   |some d=>exact z6c.dem (g:=g') _ (z6c.mono (z1q hI') d _ (hO t d hs))
theorem z77a (gh:z9t) (hF:z1Za K base) (hR:Rel K base n st a w) (hok:z7y gh st):∃base',z5V K base base'∧z1Za K base'∧Rel K base' n (z1b gh st) a w:=by
 cases gh with
 |thaw s id=>exact⟨base,z5V.refl _ _,hF,z6qc s id hF hR hok⟩
 |thawB b i id=>exact⟨base,z5V.refl _ _,hF,z98b b i id hF hR hok⟩
 |rebase ks=>exact z8Pb ks hR hok
 |cool s id=>exact⟨base,z5V.refl _ _,hF,z6mc s id hR hok⟩
 |coolB b i id=>exact⟨base,z5V.refl _ _,hF,z9bc b i id hR hok⟩
 |unorg s=>exact⟨base,z5V.refl _ _,hF,z5B _ rfl hR hok⟩
 |hideB b i=>exact⟨base,z5V.refl _ _,hF,z5B _ rfl hR hok⟩
 |reB b i o=>exact⟨base,z5V.refl _ _,hF,z5B _ rfl hR hok⟩
 |keep l=>exact⟨base,z5V.refl _ _,hF,z5B _ rfl hR hok⟩
 |drop ids=>exact⟨base,z5V.refl _ _,hF,z5B _ rfl hR hok⟩
 |freeze ids=>exact⟨base,z5V.refl _ _,hF,z5B _ rfl hR hok⟩
 |norm ids=>exact⟨base,z5V.refl _ _,hF,z5B _ rfl hR hok⟩
theorem z6zb:∀(gs:List z9t) {base:z3s} {st:ASt},z1Za K base→Rel K base n st a w→z3Wb gs st→∃base',z5V K base base'∧z1Za K base'∧Rel K base' n (z9Ha gs st) a w
 |[],base,_,hF,hR,_=>⟨base,z5V.refl _ _,hF,hR⟩
 |g::gs,base,st,hF,hR,hok=>by
  obtain⟨b1,e1,f1,r1⟩:=z77a g hF hR hok.1
  obtain⟨b2,e2,f2,r2⟩:=z6zb gs f1 r1 hok.2
  exact⟨b2,e1.trans e2,f2,r2⟩
end
end Go.Abs
end

section
set_option linter.unusedVariables false
namespace Go.Abs
def z7Fa (K:Cx) (Cd:Prop) (base:z3s) (n:Nat) (Q:z7h→ASt→Prop):Exit→Act→World→Prop
 | .normal,a,w=>∃base',(z5V K base base'∧(z1Za K base→z1Za K base')∧(Cd→base'=base))∧∃st,Rel K base' n st a w∧Q .normal st
 | .exit id,a,w=>∃base',(z5V K base base'∧(z1Za K base→z1Za K base')∧(Cd→base'=base))∧∃st,Rel K base' n st a w∧Q (.exit id) st
 | .ret,a,w=>∃base',(z5V K base base'∧(z1Za K base→z1Za K base')∧(Cd→base'=base))∧∃st,Rel K base' n st a w∧Q .ret st
 |_,_,_=>False
theorem z6Fa {K:Cx} {Cd:Prop} {base base':z3s} {n:Nat} {Q:z7h→ASt→Prop} (h:z5V K base base') (hf:z1Za K base→z1Za K base') (he:Cd→base'=base):∀e a w,z7Fa K Cd base' n Q e a w→z7Fa K Cd base n Q e a w:=by
 intro e a w hl
 cases e<;>simp only[z7Fa] at hl⊢
 all_goals (obtain⟨b,⟨hb,hb',he'⟩,r⟩:=hl;exact⟨b,⟨h.trans hb,fun x=>hb' (hf x),fun hc=>(he' hc).trans (he hc)⟩,r⟩)
section
variable {K : Cx} {n : Nat} {Cd : Prop}
theorem z7Cb {keep:List Nat} {gs:List z9t} {xs:List z2b} {x:Code} {Q:z7h→ASt→Prop} {base:z3s} {st:ASt} {a:Act} {w:World} {r:Option Nat} {m:Nat} (hc:z0e K n (.region keep gs xs) x=true)
  (hv:∀p∈z7b (.region keep gs xs),VB K p) (hcd:gs.all z9t.cold=true∨(z1Za K base∧¬Cd)) (h:awp K.E (.region keep gs xs) Q st) (hR:Rel K base n st a w):x.wpIn (WF r) m K.P (z7Fa K Cd base n Q) a w:=by
 simp only[z0e] at hc
 simp only[awp] at h
 obtain⟨hok,hgs,hq⟩:=h
 split at hc
 ·rename_i id ops draw
  simp only[Bool.and_eq_true,Bool.or_eq_true,Bool.not_eq_true'] at hc
  obtain⟨hops,hdr⟩:=hc
  have hV':∀y∈xs,VOk K y.op:=fun y hy f hf=>hv f (by simp only[z7b,List.mem_flatMap];exact⟨y,hy,hf⟩)
  cases draw with
  |false=>
   refine wpIn_region ?_
   rw[List.range_eq_range']
   refine z8bb (Q:=z7Fa K Cd base n Q) hops hV' ops.size 0 st a w (by omega) hR (by simpa using hok) fun a' w' hR'=> ?_
   rcases hcd with hcd|hcd
   ·exact⟨base,⟨z5V.refl _ _,fun x=>x,fun _=>rfl⟩,_,z8Na gs hcd (z1B keep hR') (by simpa using hgs),by simpa using hq⟩
   ·obtain⟨b',e1,e2,e3⟩:=z6zb gs hcd.1 (z1B keep hR') (by simpa using hgs)
    exact⟨b',⟨e1,fun _=>e2,fun h=>absurd h hcd.2⟩,_,e3,by simpa using hq⟩
  |true=>
   rcases hdr with hdr|hdr
   ·cases hdr
   ·have hlen:=(z8W hops).1
    have hmap:(List.range ops.size).map (xs.getD · default)=xs:=by
     apply List.ext_getElem?
     intro i
     rw[List.getElem?_map]
     by_cases hi:i<ops.size
     ·rw[List.getElem?_range hi]
      have hi':i<xs.length:=by rw[←hlen];simpa using hi
      simp[List.getD,List.getElem?_eq_getElem hi']
     ·have hi':¬i<xs.length:=by rw[←hlen];simpa using hi
      rw[List.getElem?_eq_none (by simpa using hi),List.getElem?_eq_none (by omega)]
      rfl
    refine wpIn_region_any hdr.2 ?_
    have hR1:Rel K base n st a {w with drawn:=w.drawn+1}:=by
     obtain⟨g,hI,hS,hO⟩:=hR
     exact⟨g,z0Ca hI,z1ta.slots hS,hO⟩
    refine z2pb hops hV' hdr.1 ops.size (List.range ops.size) _ st a _ (by simp) (by simp) List.pairwise_lt_range (fun i=> ?_) hR1 (by rw[hmap];exact hok) (fun a' w' hR'=> ?_)
    ·simp only[List.mem_range]
     constructor
     ·intro hi
      refine⟨hi,?_⟩
      simp[Array.getD_eq_getD_getElem?,hi]
     ·exact fun h=>h.1
    ·rw[hmap] at hR'
     rcases hcd with hcd|hcd
     ·exact⟨base,⟨z5V.refl _ _,fun x=>x,fun _=>rfl⟩,_,z8Na gs hcd (z1B keep hR') hgs,hq⟩
     ·obtain⟨b',e1,e2,e3⟩:=z6zb gs hcd.1 (z1B keep hR') hgs
      exact⟨b',⟨e1,fun _=>e2,fun h=>absurd h hcd.2⟩,_,e3,hq⟩
 ·cases hc

theorem z10b {a b:Bool} {p:Prop} (h:(a&&b)=true∨p):a=true∨p:=h.imp (fun h=>by simp only[Bool.and_eq_true] at h;exact h.1) id
theorem z7bc {a b:Bool} {p:Prop} (h:(a&&b)=true∨p):b=true∨p:=h.imp (fun h=>by simp only[Bool.and_eq_true] at h;exact h.2) id
theorem z5u:∀(c:z3a) (x:Code) (r:Option Nat) (m:Nat) (Q:z7h→ASt→Prop) (base:z3s) (st:ASt) (a:Act) (w:World),z0e K n c x=true→(∀p∈z7b c,VB K p)→z6m c=true→(z0s c=true∨(z1Za K base∧¬Cd))→awp K.E c Q st→Rel K base n st a w→x.wpIn (WF r) m K.P (z7Fa K Cd base n Q) a w
 | .ghost g c,x,r,m,Q,base,st,a,w,hc,hv,hf,hcd,h,hR=>by
  simp only[z0e] at hc
  simp only[awp] at h
  have hf':z6m c=true:=by simpa only[z6m] using hf
  rcases hcd with hcd|hcd
  ·simp only[z0s,Bool.and_eq_true] at hcd
   exact z5u c x r m Q base _ a w hc hv hf' (.inl hcd.2) h.2 (z5B g hcd.1 hR h.1)
  ·obtain⟨b',e1,e2,e3⟩:=z77a g hcd.1 hR h.1
   exact wpIn_mono (z5u c x r m Q b' _ a w hc hv hf' (.inr ⟨e2,hcd.2⟩) h.2 e3) (z6Fa e1 (fun _=>e2) fun h=>absurd h hcd.2)
 | .holdc s t c,x,r,m,Q,base,st,a,w,hc,hv,hf,hcd,h,hR=>by
  simp only[z0e] at hc
  simp only[awp] at h
  obtain⟨V,h1,h2⟩:=h
  obtain⟨V',h3,h4⟩:=z4ib s t hR h1
  exact z5u c x r m Q base _ a w hc hv (by simpa only[z6m] using hf) (by simpa only[z0s] using hcd) (h2 V' h3) h4
 | .thawc b i id c,x,r,m,Q,base,st,a,w,hc,hv,hf,hcd,h,hR=>by
  simp only[z0e] at hc
  simp only[awp] at h
  simp only[z7b] at hv
  have hf':z6m c=true:=by simpa only[z6m] using hf
  rcases hcd with hcd|hcd
  ·simp[z0s] at hcd
  ·obtain⟨k,e3⟩:=z9dc b i id hcd.1 hR h.1
   exact z5u c x r m Q base _ a w hc hv hf' (.inr hcd) (h.2 k) e3
 | .skip,x,r,m,Q,base,st,a,w,hc,hv,hf,hcd,h,hR=>by
  simp only[z0e] at hc
  simp only[awp] at h
  split at hc
  ·exact wpIn_skip ⟨base,⟨z5V.refl _ _,fun x=>x,fun _=>rfl⟩,st,hR,h⟩
  ·exact wpIn_label ⟨base,⟨z5V.refl _ _,fun x=>x,fun _=>rfl⟩,st,hR,h⟩
  ·cases hc
 | .exit id,x,r,m,Q,base,st,a,w,hc,hv,hf,hcd,h,hR=>by
  simp only[z0e] at hc
  simp only[awp] at h
  split at hc
  ·simp only[beq_iff_eq] at hc
   subst hc
   exact wpIn_exit ⟨base,⟨z5V.refl _ _,fun x=>x,fun _=>rfl⟩,st,hR,h⟩
  ·cases hc
 | .ret,x,r,m,Q,base,st,a,w,hc,hv,hf,hcd,h,hR=>by
  simp only[z0e] at hc
  simp only[awp] at h
  split at hc
  ·exact wpIn_ret ⟨base,⟨z5V.refl _ _,fun x=>x,fun _=>rfl⟩,st,hR,h⟩
  ·cases hc
 | .bad,x,r,m,Q,base,st,a,w,hc,hv,hf,hcd,h,hR=>by
  simp only[awp] at h
 | .alt p q,x,r,m,Q,base,st,a,w,hc,hv,hf,hcd,h,hR=>by
  simp only[z0e,Bool.and_eq_true] at hc
  simp only[awp] at h
  simp only[z7b,List.mem_append] at hv
  simp only[z6m,Bool.and_eq_true] at hf
  rcases h with h|h
  ·exact z5u p x r m Q base st a w hc.1 (fun f hf=>hv f (.inl hf)) hf.1 (z10b hcd) h hR
  ·exact z5u q x r m Q base st a w hc.2 (fun f hf=>hv f (.inr hf)) hf.2 (z7bc hcd) h hR
 | .region keep gs xs,x,r,m,Q,base,st,a,w,hc,hv,hf,hcd,h,hR=>z7Cb hc hv hcd h hR
 | .seq p q,x,r,m,Q,base,st,a,w,hc,hv,hf,hcd,h,hR=>by
  simp only[z0e] at hc
  simp only[awp] at h
  simp only[z7b,List.mem_append] at hv
  simp only[z6m,Bool.and_eq_true] at hf
  split at hc
  ·rename_i y z
   simp only[Bool.and_eq_true] at hc
   refine wpIn_seq (wpIn_mono (z5u p y r m _ base st a w hc.1 (fun f hf=>hv f (.inl hf)) hf.1 (z10b hcd) h hR) ?_)
   intro e a' w' hl
   cases e<;>simp only[z7Fa] at hl<;>simp only[Exit.then]
   ·obtain⟨b',⟨hE,hE',hE2⟩,st',hR',hq⟩:=hl
    exact wpIn_mono (z5u q z r m Q b' st' a' w' hc.2 (fun f hf=>hv f (.inr hf)) hf.2 ((z7bc hcd).imp (fun h=>h) fun h=>⟨hE' h.1,h.2⟩) hq hR') (z6Fa hE hE' hE2)
   ·exact hl
   ·exact hl
  ·cases hc
 | .cond c p q,x,r,m,Q,base,st,a,w,hc,hv,hf,hcd,h,hR=>by
  simp only[z0e] at hc
  simp only[awp] at h
  simp only[z7b,List.mem_append] at hv
  simp only[z6m,Bool.and_eq_true] at hf
  split at hc
  ·rename_i c' y z
   simp only[Bool.and_eq_true] at hc
   obtain⟨⟨hcc,hy⟩,hz⟩:=hc
   obtain⟨hb,ht,hf'⟩:=h
   have hR':=hR
   obtain⟨g,hI,hS,_⟩:=hR'
   obtain⟨_,hval⟩:=z4ga (z9b hI hS hcc) hb
   refine wpIn_cond_split hval (fun e=> ?_) (fun e=> ?_)
   ·exact z5u p y r m Q base st a w hy (fun f hf=>hv f (.inl hf)) hf.1 (z10b hcd) (ht e) hR
   ·exact z5u q z r m Q base st a w hz (fun f hf=>hv f (.inr hf)) hf.2 (z7bc hcd) (hf' e) hR
  ·cases hc
 | .scope b,x,r,m,Q,base,st,a,w,hc,hv,hf,hcd,h,hR=>by
  simp only[z0e] at hc
  simp only[awp] at h
  simp only[z6m] at hf
  split at hc
  ·rename_i p
   refine z48a (wpIn_mono (z5u b p r m Q base st a w hc hv hf hcd h hR) ?_)
   intro e a' w' hl
   cases e<;>simp only[z7Fa] at hl<;>exact hl
  ·cases hc
 | .block id b,x,r,m,Q,base,st,a,w,hc,hv,hf,hcd,h,hR=>by
  simp only[z0e] at hc
  simp only[awp] at h
  simp only[z6m] at hf
  split at hc
  ·rename_i id' p
   simp only[Bool.and_eq_true,beq_iff_eq] at hc
   obtain⟨rfl,hp⟩:=hc
   refine wpIn_block (wpIn_mono (z5u b p r m _ base st a w hp hv hf hcd h hR) ?_)
   intro e a' w' hl
   cases e<;>simp only[z7Fa] at hl<;>simp only[Exit.inBlock]
   ·exact hl
   ·rename_i id'
    obtain⟨b',hE,st',hR',hq⟩:=hl
    simp only[z1Na] at hq
    split
    ·rename_i he
     rw[if_pos he] at hq
     exact⟨b',hE,st',hR',hq⟩
    ·rename_i he
     rw[if_neg he] at hq
     exact⟨b',hE,st',hR',hq⟩
   ·exact hl
  ·cases hc
 | .loop b,x,r,m,Q,base,st,a,w,hc,hv,hf,hcd,h,hR=>by
  simp only[z0e] at hc
  simp only[awp] at h
  simp only[z6m] at hf
  split at hc
  ·rename_i p
   obtain⟨I,⟨k,hm⟩,hround⟩:=h
   refine z2ia (fun k a w=>∃b',(z5V K base b'∧(z1Za K base→z1Za K b')∧(Cd→b'=base))∧∃st,Rel K b' n st a w∧I k st) ⟨base,⟨z5V.refl _ _,fun x=>x,fun _=>rfl⟩,st,hR,hm⟩ fun k a w hj=> ?_
   obtain⟨b',⟨hE,hE',hE2⟩,st',hR',hI⟩:=hj
   refine wpIn_mono (z5u b p r m _ b' st' a w hc hv hf (hcd.imp (fun h=>h) fun h=>⟨hE' h.1,h.2⟩) (hround _ st' hI) hR') ?_
   intro e a' w' hl
   have hl:=z6Fa hE hE' hE2 e a' w' hl
   cases e<;>simp only[z7Fa] at hl<;>simp only[Exit.then]
   ·obtain⟨b2,hE2,st2,hR2,m',hlt,hI'⟩:=hl
    exact⟨m',hlt,b2,hE2,st2,hR2,hI'⟩
   ·exact hl
   ·exact hl
  ·cases hc
 | .range f t ks ps as bd,x,r,m,Q,base,st,a,w,hc,hv,hf,hcd,h,hR=>by
  simp[z6m] at hf
theorem z2Ta {ops:Array Oper} {base:z3s} {Q:Exit→Act→World→Prop} {r:Option Nat} {q:Nat} {rest:List Nat}:∀(xs:List z2b) (s:Nat) (st:ASt) (a:Act) (w:World),z7T K n ops ((ops.toList.drop s).take xs.length) xs=true→(∀x∈xs,VOk K x.op)→Rel K base n st a w→
  z6V K.E xs st→(∀a' w',Rel K base n (z1ga K.E xs st) a' w'→wpOpsIn (WF r) q K.P ops Q rest a' w')→wpOpsIn (WF r) q K.P ops Q (List.range' s xs.length++rest) a w
 |[],s,st,a,w,_,_,hR,_,hn=>by simpa using hn a w hR
 |x::xs,s,st,a,w,hc,hV,hR,hok,hn=>by
  cases hd:ops.toList.drop s with
  |nil=>rw[hd] at hc;simp[z7T] at hc
  |cons o os=>
   rw[hd] at hc
   simp only[List.length_cons,List.take_succ_cons,z7T,Bool.and_eq_true] at hc
   have hs:s<ops.size:=by
    have:(ops.toList.drop s).length≠0:=by rw[hd];simp
    simp at this;omega
   have ho:ops[s]? =some o:=by
    have:(ops.toList.drop s)[0]? =some o:=by rw[hd];rfl
    rw[List.getElem?_drop] at this
    simpa using this
   have hos:ops.toList.drop (s+1)=os:=by
    rw[←List.drop_drop,hd];rfl
   rw[List.length_cons,List.range'_succ,List.cons_append,wpOpsIn_cons]
   refine z1Ga (oper:=o) (o:=x) hR ho hc.1 hok.1 (hV x (by simp)) fun a' w' hR'=> ?_
   exact z2Ta xs (s+1) _ a' w' (by rw[hos];exact hc.2) (fun y hy=>hV y (by simp[hy])) hR' hok.2 hn
theorem z7cc {Cd:Prop} {base:z3s} {Q:z7h→ASt→Prop}:∀e a w,z7Fa K Cd base n Q e a w→z2Pa K base n Q e a w:=by
 intro e a w h
 cases e<;>simp only[z7Fa] at h<;>simp only[z2Pa]
 all_goals (obtain⟨b,⟨hb,_⟩,r⟩:=h;exact⟨b,hb,r⟩)
end
end Go.Abs
end

section
namespace Go.Abs

inductive z4Fa where
 |t (s:Nat)
 |cell (s:Nat) (k:Option Nat) (id:Nat)
 |o (s:Nat)
 deriving Inhabited

structure z6e where
 n:Nat
 wr:List Nat:=[]
 body:z3a
 res:List z4Fa

def z9u (i:Nat):List z2a→List (Nat×z2a)
 |[]=>[]
 |d::ds=>(i,d)::z9u (i+1) ds
def z3b (wr:List Nat) (ds:List z2a):ASt:=
 {org:=(z9u 0 ds).filter fun p=> !wr.contains p.1
  env:=((z9u 0 ds).filter fun p=>wr.contains p.1).map fun p=>(p.1,dem p.2)
  box:=[]}

def z24a (st:ASt):z4Fa→z2a
 | .t s=>dem (st.get s)
 | .o s=>dem (st.get s)
 | .cell s k id=>match k with
  |none=>dem (hdA (z3v st.getB (some id) (st.get s)))
  |some n=> .agg ((z3v st.getB (some id) (st.get s)).take n)
def z3Fa (st:ASt):z4Fa→Prop
 | .t _=>True
 | .o _=>True
 | .cell s k id=>z3Ua st.getB (some id) (k.getD 1) (st.get s)
def z7U (st:ASt):List z4Fa→z2a
 |[.t s]=>st.get s
 |[r]=>z24a st r
 |rs=> .tup (rs.map (z24a st))
def z5nc (d:z2a) (rest:List z2a):z2a:=match d with| .sl (.own e) nl n cs=> .otup e nl n cs rest|d=> .tup (dem d::rest)
def z4Nb (st:ASt) (rs:List z4Fa):z2a:=match rs with
 | .o s::r::rs=>z5nc (st.get s) ((r::rs).map (z24a st))
 |rs=>z7U st rs

def z0m (res:List z4Fa) (v:z2a):z7h→ASt→Prop
 | .normal,st| .ret,st=>(∀r∈res,z3Fa st r)∧z4Nb st res=v∧z8d v=true
 |_,_=>False

def z0Z (K:Cx):List z4Fa→List ResultVar→Bool
 |[],[]=>true
 | .t s::rs,.tmp t::vs=>(s==t)&&z0Z K rs vs
 | .o s::rs,.tmp t::vs=>(s==t)&&z0Z K rs vs
 | .cell s k _::rs,.cell t ty::vs=>(s==t)&&z5Rb K.P ty k&&(match k with|some n=>n !=0|none=>true)&&z0Z K rs vs
 |_,_=>false

def z2f (K:Cx) (f:z6e) (fn:Func):Bool:=
 !(fn.name== "runtime.NumGoroutine")&&(match fn.body with|some c=>z0e K fn.ntmps f.body c|none=>false)&&z0Z K f.res fn.results.toList&&decide (f.n≤fn.ntmps)

section
variable {K : Cx} {base : z3s} {n : Nat} {st : ASt} {a : Act} {w : World}

theorem z8c.len {K:Con} {S:Nat→Nat} {w:World}:∀{ds:List z2a} {vs:List Value},z8c K S w ds vs→ds.length=vs.length
 |[],_,h=>by simp only[z8c] at h;subst h;rfl
 |_::_,_,h=>by
  simp only[z8c] at h
  obtain⟨x,xs,rfl,_,h2⟩:=h
  simp[z8c.len h2]
theorem z8c.get {K:Con} {S:Nat→Nat} {w:World}:∀{ds:List z2a} {vs:List Value},z8c K S w ds vs→∀(i:Nat) (d:z2a),ds[i]? =some d→∃v,vs[i]? =some v∧z6c K S w d v
 |[],_,h,i,d,hd=>by simp at hd
 |c::cs,l,h,i,d,hd=>by
  simp only[z8c] at h
  obtain⟨x,xs,rfl,h1,h2⟩:=h
  cases i with
  |zero=>simp at hd;subst hd;exact⟨x,by simp,h1⟩
  |succ i=>simp at hd;obtain⟨v,hv,hr⟩:=z8c.get h2 i d hd;exact⟨v,by simpa using hv,hr⟩

theorem z4cb:∀(ds:List z2a) (i s:Nat),lk (z9u i ds) s=if i≤s then ds[s-i]? else none
 |[],i,s=>by simp[z9u,lk]
 |d::ds,i,s=>by
  simp only[z9u,lk]
  by_cases h:s=i
  ·subst h;simp
  ·rw[if_neg h,z4cb ds (i+1) s]
   by_cases hi:i≤s
   ·rw[if_pos hi,if_pos (by omega),show s-i=(s-(i+1))+1 by omega]
    simp
   ·rw[if_neg hi,if_neg (by omega)]

theorem z3cb (wr:List Nat) (ds:List z2a) (s:Nat):lk (z3b wr ds).org s=if s∈wr then none else ds[s]? :=by
 have:(z3b wr ds).org=(z9u 0 ds).filter fun p=>(fun k=> !wr.contains k) p.1:=rfl
 rw[this,z4n (fun k=> !wr.contains k),z4cb]
 by_cases h:s∈wr<;>simp[h]
theorem z2kc (wr:List Nat) (ds:List z2a) (s:Nat):lk (z3b wr ds).env s=if s∈wr then(ds[s]?).map dem else none:=by
 have:(z3b wr ds).env=((z9u 0 ds).filter fun p=>(fun k=>wr.contains k) p.1).map fun p=>(p.1,dem p.2):=rfl
 rw[this,z78a dem,z4n (fun k=>wr.contains k),z4cb]
 by_cases h:s∈wr<;>simp[h]

theorem z1wc (wr:List Nat) {S:Nat→Nat} {ds:List z2a} {vs:List Value} (hg:∀n∈K.N.gs,z9d K.toCon S w (K.E.T n) (K.N.gnum n) 0) (h:z8c K.toCon S w ds vs) (m:Nat) (hm:vs.length+m=n):
  Rel K ⟨w,fun _=>False,S,[],fun _=>none⟩ n (z3b wr ds) {tmps:=vs.toArray++Array.replicate m undef,defers:=[]} w:=by
 have hlen:=h.len
 have hget:∀s d,ds[s]? =some d→z6c K.toCon S w d ((vs.toArray++Array.replicate m undef).getD s undef):=fun s d hd=>by
  obtain⟨v,hv,hr⟩:=h.get s d hd
  have hs:s<vs.length:=(List.getElem?_eq_some_iff.1 hv).1
  rw[Array.getD_eq_getD_getElem?,Array.getElem?_append_left (by simpa using hs)]
  simpa[hv] using hr
 have hk:z1g S w (z3s.S ⟨w,fun _=>False,S,[],fun _=>none⟩) w:=fun b i x hi hc=>by
  refine⟨?_,hc⟩
  have hb:b<w.heap.size:=World.block_lt_of_cell? w ⟨b,i,none⟩ hc
  unfold z3s.S
  rw[if_pos ⟨hb,fun h=>h⟩]
  exact hi
 refine⟨{S:=S,ow:=fun _=>none,mu:=fun _=>none},{fr:=Fr.refl _ _ _,sS:=fun _ _ _=>rfl,inj:=fun _ _ _ h _=>(by cases h),bxok:=fun id cs h=>by simp[ASt.getB,z3b,lk] at h,nobx:=fun _ _=>rfl,muW:=fun _ _ h=>(by cases h),owW:=fun _ _ h=>(by cases h),glob:=hg,kp:=z1g.refl _ _,obok:=fun _ _ _ _ h=>(by cases h),old:=fun _ _ _ _ h=>(by cases h)},fun s=> ?_,fun s d hs=> ?_,rfl,by simp;exact hm⟩
 ·unfold ASt.get
  rw[z2kc,z3cb]
  by_cases hs:s∈wr
  ·rw[if_pos hs]
   cases hd:ds[s]? with
   |none=>simp[hs,Abs.dem,Rep]
   |some d=>simp only[Option.map_some];exact z6c.dem (g:=⟨S,_,_⟩) _ (hget s d hd)
  ·rw[if_neg hs,if_neg hs]
   cases hd:ds[s]? with
   |none=>simp[Abs.dem,Rep]
   |some d=>exact z6c.dem (g:=⟨S,_,_⟩) _ (hget s d hd)
 ·rw[z3cb] at hs
  split at hs
  ·cases hs
  ·exact z6c.mono hk d _ (hget s d hs)

theorem z1cb {P:Program} {t:TypeId} {k:Option Nat} (hk:z5Rb P t k=true) {bk o:Nat} {vs:List Value} (hr:w.rangeAt bk o vs) (hn:k.getD 1≤vs.length):
  (loadVar t ⟨bk,o,none⟩).run P w= .ok (z3tb k vs) w:=by
 unfold z3tb
 cases k with
 |none=>
  simp only[z5Rb,Bool.and_eq_true] at hk
  obtain⟨D,hu,hD⟩:=z2k hk.1
  cases vs with
  |nil=>simp at hn
  |cons v r=>
   have h0:=hr 0 v (by simp)
   simp only[Nat.add_zero] at h0
   cases D<;>simp[TypeDesc.isRow] at hD<;>simp[loadVar,isAgg,run_underlying hu,h0]
 |some n=>
  simp only[z5Rb,Bool.and_eq_true] at hk
  obtain⟨D,hu,hD⟩:=z2k hk.1
  simp only[Option.getD_some] at hn
  exact run_loadVar_mid w bk o t (vs.take n) D (fun j v hv=>by
   rw[List.getElem?_take] at hv
   split at hv
   ·exact hr j v hv
   ·cases hv) hu hD (by rw[List.length_take,Nat.min_eq_left hn];exact z4Xa hk.2)

def z14 (tmps:Array Value):ResultVar→Sem Value
 | .tmp t=>pure (tmps.getD t undef)
 | .cell a t=>do loadVar t (←asAddr (tmps.getD a undef))

theorem z5Ma {g:Gh} (hI:Inv K base g w st.getB) (hS:z3e K g w st.get a):∀{rs:List z4Fa} {vs:List ResultVar},z0Z K rs vs=true→(∀r∈rs,z3Fa st r)→
  ∃xs,(List.mapM (z14 a.tmps) vs).run K.P w= .ok xs w∧z5d K.toCon g w (rs.map (z24a st)) xs∧(∀s,rs=[.t s]→xs=[a.tmps.getD s undef])∧(∀s r',rs= .o s::r'→∃ys,xs=a.tmps.getD s undef::ys)
 |[],[],_,_=>⟨[],by simp,by simp[z5d],by simp,by simp⟩
 |[],_::_,h,_=>by simp[z0Z] at h
 | .t _::_,[],h,_=>by simp[z0Z] at h
 | .o _::_,[],h,_=>by simp[z0Z] at h
 | .o _::rs,.cell _ _::vs,h,_=>by simp[z0Z] at h
 | .cell _ _ _::_,[],h,_=>by simp[z0Z] at h
 | .t s::rs,.cell _ _::vs,h,_=>by simp[z0Z] at h
 | .cell _ _ _::rs,.tmp _::vs,h,_=>by simp[z0Z] at h
 | .t s::rs,.tmp t::vs,h,hok=>by
  simp only[z0Z,Bool.and_eq_true,beq_iff_eq] at h
  obtain⟨rfl,h⟩:=h
  obtain⟨xs,h1,h2,h3⟩:=z5Ma hI hS h (fun r hr=>hok r (by simp[hr]))
  refine⟨a.tmps.getD s undef::xs,?_,?_,fun s' hs'=> ?_,fun s' r' hs'=>by simp at hs'⟩
  ·simp only[List.mapM_cons,z14,Sem.run_bind,Sem.run_pure,Result.andThen_ok,h1]
  ·simp only[List.map_cons,z5d,z24a]
   exact⟨_,_,rfl,Rep.dem _ (hS s),h2⟩
  ·simp only[List.cons.injEq,z4Fa.t.injEq] at hs'
   obtain⟨rfl,rfl⟩:=hs'
   have:=h2.len
   simp at this
   rw[List.length_eq_zero_iff.1 this.symm]
 | .o s::rs,.tmp t::vs,h,hok=>by
  simp only[z0Z,Bool.and_eq_true,beq_iff_eq] at h
  obtain⟨rfl,h⟩:=h
  obtain⟨xs,h1,h2,h3⟩:=z5Ma hI hS h (fun r hr=>hok r (by simp[hr]))
  refine⟨a.tmps.getD s undef::xs,?_,?_,fun s' hs'=>by simp at hs',fun s' r' hs'=> ?_⟩
  ·simp only[List.mapM_cons,z14,Sem.run_bind,Sem.run_pure,Result.andThen_ok,h1]
  ·simp only[List.map_cons,z5d,z24a]
   exact⟨_,_,rfl,Rep.dem _ (hS s),h2⟩
  ·simp only[List.cons.injEq,z4Fa.o.injEq] at hs'
   obtain⟨rfl,rfl⟩:=hs'
   exact⟨xs,rfl⟩
 | .cell s k id::rs,.cell t ty::vs,h,hok=>by
  simp only[z0Z,Bool.and_eq_true,beq_iff_eq] at h
  obtain⟨⟨⟨rfl,hk⟩,hn0⟩,h⟩:=h
  obtain⟨xs,h1,h2,h3⟩:=z5Ma hI hS h (fun r hr=>hok r (by simp[hr]))
  have hpos:0<k.getD 1:=by
   cases k with
   |none=>simp
   |some n=>simp at hn0⊢;omega
  have hok1:=hok (.cell s k id) (by simp)
  simp only[z3Fa] at hok1
  obtain⟨bk,off,ws,hv,hr,hrl,hn⟩:=z9Mb hI hok1 hpos (z74 (hS s))
  refine⟨z3tb k ws::xs,?_,?_,fun s' hs'=>by simp at hs',fun s' r' hs'=>by simp at hs'⟩
  ·simp only[List.mapM_cons,z14,Sem.run_bind,hv,asAddr,Sem.run_pure,Result.andThen_ok,z1cb hk hr hn,h1]
  ·simp only[List.map_cons,z5d,z24a]
   refine⟨_,_,rfl,?_,h2⟩
   cases k with
   |some n=>simp only[Rep,z3tb];exact⟨_,rfl,by simpa using hrl.take n⟩
   |none=>
    simp only[z3tb]
    cases hcs:z3v st.getB (some id) (st.get s) with
    |nil=>have:=hrl.len;rw[hcs] at this;simp at this hn;omega
    |cons c cs=>
     rw[hcs] at hrl
     simp only[z5d] at hrl
     obtain⟨v,r,rfl,h1,_⟩:=hrl
     exact Rep.dem _ h1

def z5Vb (K:Cx) (b:z3a):Prop:=∀(n:Nat) (x:Code) (Q:z7h→ASt→Prop) (base:z3s) (st:ASt) (a:Act) (w:World),z0e K n b x=true→(z0s b=true∨z1Za K base)→awp K.E b Q st→Rel K base n st a w→x.wpIn (WF none) 0 K.P (z2Pa K base n Q) a w
theorem z0ca {b:z3a} (hv:∀p∈z7b b,VB K p) (hf:z6m b=true):z5Vb K b:=fun n x Q base st a w hc ht h hR=>wpIn_mono (z5u (Cd:=False) b x none 0 Q base st a w hc hv hf (ht.imp (fun h=>h) fun h=>⟨h,fun h=>h⟩) h hR) z7cc
theorem z9Zb {b:z3a} (hv:∀p∈z7b b,VB K p) (hi:∀f∈z2F b,z0x K f (K.E.I f)) (hfl:z8S b=true) (ht:(z0s b||z6m b)=true):z5Vb K b:=fun n x Q base st a w hc hF h hR=>by
 cases hcold:z0s b with
 |true=>exact z6q b x none 0 _ _ _ _ w hc hv hi (.inr ⟨rfl,hfl⟩) hcold h hR
 |false=>
  rw[hcold,Bool.false_or] at ht
  exact z0ca hv ht n x Q base st a w hc hF h hR
theorem z2Ka {f:Nat} {fn:Func} {F:z6e} {c:z5a} (hf:K.P.funcs[K.nu f]? =some fn) (hc:z2f K F fn=true) (hs:z5Vb K F.body)
  (h:∀ds,c.pre ds→ds.length=F.n∧awp K.E F.body (z0m F.res (c.post ds)) (z3b F.wr ds)):z6a K f c:=by
 simp only[z2f,Bool.and_eq_true,Bool.not_eq_true',decide_eq_true_eq] at hc
 obtain⟨⟨⟨hname,hbody⟩,hres⟩,hsz⟩:=hc
 cases hb:fn.body with
 |none=>rw[hb] at hbody;cases hbody
 |some code=>
  rw[hb] at hbody
  simp only at hbody
  refine⟨⟨fn,hf,by rw[hb];rfl,hname⟩,fun S w ds vs hg hds hpre=> ?_⟩
  obtain⟨hlen,hw⟩:=h ds hpre
  have hl2:=hds.len
  refine callsIn_wide.1 (callsIn_of_wp_marks (F:=WF none) (n:=0) hf hb (z3eb none _) ?_)
  have hR:=z1wc (n:=fn.ntmps) F.wr hg hds (fn.ntmps-vs.length) (by omega)
  have hwp:=hs fn.ntmps code _ _ _ _ w hbody (.inr ⟨fun _ h=>False.elim h,hg⟩) hw hR
  simp only[List.size_toArray]
  refine wpIn_mono hwp fun e a' w' hl=> ?_
  have fin:∀st g w',Inv K ⟨w,fun _=>False,S,[],fun _=>none⟩ g w' st.getB→z3e K g w' st.get a'→((∀r∈F.res,z3Fa st r)∧z4Nb st F.res=c.post ds∧z8d (c.post ds)=true)→
    ∃v,(results fn a'.tmps).run K.P w'= .ok v w'∧∃v' g',Ending.returned v= .returned v'∧Fr w.heap.size (fun _=>False) w w'∧Rep K.toCon g' w' (some .ret) (c.post ds) v'∧
     (∀b l,g'.ow b=some l→w.heap.size≤b∧b<w'.heap.size)∧∀b,b<w.heap.size→g'.S b=S b:=fun st g w' hI hS hq=>by
   obtain⟨hok,hval,hpure⟩:=hq
   obtain⟨xs,h1,h2,h3,h3o⟩:=z5Ma hI hS hres hok
   have hmap:fn.results.mapM (z14 a'.tmps)=Functor.map List.toArray (fn.results.toList.mapM (z14 a'.tmps)):=by
    exact Array.mapM_eq_mapM_toList
   have hrun:(results fn a'.tmps).run K.P w'= .ok (if h:xs.toArray.size=1 then xs.toArray[0] else .tuple xs.toArray) w':=by
    have:results fn a'.tmps=(do
     let vs←fn.results.mapM (z14 a'.tmps)
     pure (if h:vs.size=1 then vs[0] else .tuple vs)):=rfl
    rw[this,hmap]
    simp only[map_eq_pure_bind,Sem.run_bind,h1,Result.andThen_ok,Sem.run_pure]
   refine⟨_,hrun,?_⟩
   have how:∀b l,g.ow b=some l→w.heap.size≤b∧b<w'.heap.size:=fun b l hb=>by
    obtain⟨k1,k2⟩:=hI.owW b l hb
    exact⟨k1.resolve_right (fun h=>h),k2⟩
   have hSb:∀b,b<w.heap.size→g.S b=S b:=fun b hb=>hI.sS b hb (fun h=>h)
   by_cases hone:∃s,F.res=[.t s]
   ·obtain⟨s,hs⟩:=hone
    have hx:=h3 s hs
    subst hx
    rw[hs] at hval
    simp only[z4Nb,z7U] at hval
    refine⟨a'.tmps.getD s undef,z4H g (.slot s) .ret,by simp,hI.fr,?_,fun b l hb=> ?_,hSb⟩
    ·rw[←hval];exact z1r (hS s)
    ·simp only[z4H] at hb
     split at hb
     ·rename_i he;exact how b _ he
     ·exact how b l hb
   ·have hl3:=h2.len
    simp only[List.length_map] at hl3
    have rest:∀{d:z2a} {v:Value},Rep K.toCon g w' none d v→z5e d=false→d=c.post ds→Rep K.toCon g w' (some .ret) (c.post ds) v:=fun {d v} hr ho he=>by
     rw[←he];exact z8T _ ho hr
    have hdem:∀d:z2a,z5e (dem d)=false:=z4M
    cases hF:F.res with
    |nil=>
     rw[hF] at h2 hval hl3
     simp only[List.map_nil,z5d] at h2
     subst h2
     refine⟨_,g,rfl,hI.fr,?_,how,hSb⟩
     refine rest (d:= .tup []) ?_ rfl (by rw[←hval];rfl)
     simp[Rep,z5d]
    |cons r rs=>
     rw[hF] at h2 hval hl3 hone
     cases rs with
     |nil=>
      simp only[List.map_cons,List.map_nil,z5d] at h2
      obtain⟨x,ys,rfl,h4,rfl⟩:=h2
      refine⟨x,g,by simp,hI.fr,?_,how,hSb⟩
      cases r with
      |t s=>exact absurd ⟨s,rfl⟩ hone
      |o s=>
       simp only[z4Nb,z7U] at hval
       exact rest h4 (hdem _) hval
      |cell s k id=>
       simp only[z4Nb,z7U] at hval
       refine rest h4 ?_ hval
       cases k with
       |none=>exact hdem _
       |some n=>rfl
     |cons r2 rs=>
      have h5:¬(xs.toArray.size=1):=by simp only[List.size_toArray,←hl3,List.length_cons];omega
      have dflt:c.post ds= .tup ((r::r2::rs).map (z24a st))→∃v' g',(.returned (if h:xs.toArray.size=1 then xs.toArray[0] else .tuple xs.toArray):Ending)= .returned v'∧Fr w.heap.size (fun _=>False) w w'∧Rep K.toCon g' w' (some .ret) (c.post ds) v'∧
        (∀b l,g'.ow b=some l→w.heap.size≤b∧b<w'.heap.size)∧∀b,b<w.heap.size→g'.S b=S b:=fun he=>by
       refine⟨.tuple xs.toArray,g,by rw[dif_neg h5],hI.fr,?_,how,hSb⟩
       refine rest (d:= .tup ((r::r2::rs).map (z24a st))) ?_ rfl he.symm
       simp only[Rep]
       exact⟨_,rfl,by simpa using h2⟩
      cases r with
      |t s=>exact dflt (by rw[←hval];rfl)
      |cell s k id=>exact dflt (by rw[←hval];rfl)
      |o s=>
       have hval':z5nc (st.get s) ((r2::rs).map (z24a st))=c.post ds:=hval
       unfold z5nc at hval'
       split at hval'
       ·rename_i e nl n cs hget
        obtain⟨ys,hys⟩:=h3o s _ hF
        have hm:=z1r (l1:= .ret) (z2Ca hS s)
        rw[hget] at hm
        simp only[Rep] at hm
        simp only[List.map_cons,z5d] at h2
        obtain⟨x,zs,hx,_,h6⟩:=h2
        rw[hys] at hx
        simp only[List.cons.injEq] at hx
        obtain⟨rfl,rfl⟩:=hx
        refine⟨.tuple xs.toArray,z4H g (.slot s) .ret,by rw[dif_neg h5],hI.fr,?_,fun b l hb=> ?_,hSb⟩
        ·rw[←hval']
         simp only[Rep]
         refine⟨xs.toArray,_,ys,rfl,hys,hm,?_⟩
         exact z5d.mono (g:=g) (g':=z4H g (.slot s) .ret) (z1g.refl g.S w') ((r2::rs).map (z24a st)) ys (fun _ _ _ h=>h) (by simpa[z5d] using h6)
        ·simp only[z4H] at hb
         split at hb
         ·rename_i he;exact how b _ he
         ·exact how b l hb
       ·rename_i d hd
        exact dflt (by rw[←hval'];rfl)
  cases e<;>simp only[z2Pa] at hl<;>simp only[bodyPostM]
  ·obtain⟨b',hE,st,hR',hq⟩:=hl
   exact z6Qb hE rfl hR' fun g w' hI hS hO=>fin st g w' hI hS hq
  ·obtain⟨b',hE,st,_,hq⟩:=hl
   exact hq
  ·obtain⟨b',hE,st,hR',hq⟩:=hl
   exact z6Qb hE rfl hR' fun g w' hI hS hO=>fin st g w' hI hS hq

theorem z7ra {f:Nat} {fn:Func} {F:z6e} {c:z5a} (hf:K.P.funcs[K.nu f]? =some fn) (hc:z2f K F fn=true) (hv:∀p∈z7b F.body,VB K p)
  (h:∀ds,c.pre ds→ds.length=F.n∧awp K.E F.body (z0m F.res (c.post ds)) (z3b F.wr ds)) (hi:∀f∈z2F F.body,z0x K f (K.E.I f)) (hfl:z8S F.body=true) (ht:(z0s F.body||z6m F.body)=true):z6a K f c:=z2Ka hf hc (z9Zb hv hi hfl ht) h
theorem z79 {f:Nat} {fn:Func} {F:z6e} {c:z5a} (hf:K.P.funcs[K.nu f]? =some fn) (hc:z2f K F fn=true) (hv:∀p∈z7b F.body,VB K p)
  (h:∀ds,c.pre ds→ds.length=F.n∧awp K.E F.body (z0m F.res (c.post ds)) (z3b F.wr ds)) (hfl:z6m F.body=true):z6a K f c:=z2Ka hf hc (z0ca hv hfl) h
end
end Go.Abs
end
