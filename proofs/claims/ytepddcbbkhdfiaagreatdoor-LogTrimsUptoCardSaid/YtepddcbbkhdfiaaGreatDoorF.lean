/- Lemmas: an abstract interpreter, and what the functions compute. -/
import Derived.Test.YtepddcbbkhdfiaaGreatDoorE
import Derived.Laws.Sem
set_option linter.unusedSimpArgs false
set_option linter.unusedVariables false
set_option linter.unusedSectionVars false
section
set_option linter.unusedVariables false
namespace Go.Abs

mutual
def toV:z0a→Value
 | .lit v=>v
 | .agg cs=> .agg (z8ja cs).toArray
 | .tup cs=> .tuple (z8ja cs).toArray
 |_=>undef
def z8ja:List z0a→List Value
 |[]=>[]
 |c::cs=>toV c::z8ja cs
end
mutual
theorem z5Vb {K:Con} {g:Gh} {w:World}:∀(c:z0a) (l:Option Loc),z6c c=true→Rep K g w l c (toV c)
 | .lit v,_,_=>by simp[Rep,toV]
 | .agg cs,_,h=>by
  simp only[z6c] at h
  simp only[Rep,toV]
  exact⟨_,rfl,by simpa using z86b cs h⟩
 | .tup cs,_,h=>by
  simp only[z6c] at h
  simp only[Rep,toV]
  exact⟨_,rfl,by simpa using z86b cs h⟩
 | .undef,_,h=>by simp[z6c] at h
 | .sl _ _ _ _,_,h=>by simp[z6c] at h
 | .bp _ _,_,h=>by simp[z6c] at h
 | .bv _ _ _ _ _,_,h=>by simp[z6c] at h
 | .ep _,_,h=>by simp[z6c] at h
 | .otup _ _ _ _ _,_,h=>by simp[z6c] at h
 | .oagg _ _ _ _ _ _,_,h=>by simp[z6c] at h
 | .fn _ _ _,_,h=>by simp[z6c] at h
theorem z86b {K:Con} {g:Gh} {w:World}:∀(cs:List z0a),z7a cs=true→z2b K g w cs (z8ja cs)
 |[],_=>by simp[z2b,z8ja]
 |c::cs,h=>by
  simp only[z7a,Bool.and_eq_true] at h
  simp only[z2b,z8ja]
  exact⟨_,_,rfl,z5Vb c none h.1,z86b cs h.2⟩
end
theorem z02b:∀cs,(z8ja cs).length=cs.length
 |[]=>rfl
 |_::cs=>by simp[z8ja,z02b cs]
theorem z3yc:∀(cs:List z0a) (i:Nat),(z8ja cs)[i]? =(cs[i]?).map toV
 |[],i=>by simp[z8ja]
 |c::cs,0=>by simp[z8ja]
 |c::cs,i+1=>by simp[z8ja,z3yc cs i]

mutual
theorem z7ub {K:Con} {g:Gh} {w:World}:∀(c:z0a) (v:Value) (l:Option Loc),z6c c=true→Rep K g w l c v→v=toV c
 | .lit x,v,_,_,h=>by simpa[Rep,toV] using h
 | .agg cs,v,_,hm,h=>by
  simp only[z6c] at hm
  simp only[Rep] at h
  obtain⟨a,rfl,h⟩:=h
  simp only[toV,Value.agg.injEq]
  rw[←z8jb cs _ hm h]
 | .tup cs,v,_,hm,h=>by
  simp only[z6c] at hm
  simp only[Rep] at h
  obtain⟨a,rfl,h⟩:=h
  simp only[toV,Value.tuple.injEq]
  rw[←z8jb cs _ hm h]
 | .undef,_,_,h,_=>by simp[z6c] at h
 | .sl _ _ _ _,_,_,h,_=>by simp[z6c] at h
 | .bp _ _,_,_,h,_=>by simp[z6c] at h
 | .bv _ _ _ _ _,_,_,h,_=>by simp[z6c] at h
 | .ep _,_,_,h,_=>by simp[z6c] at h
 | .otup _ _ _ _ _,_,_,h,_=>by simp[z6c] at h
 | .oagg _ _ _ _ _ _,_,_,h,_=>by simp[z6c] at h
 | .fn _ _ _,_,_,h,_=>by simp[z6c] at h
theorem z8jb {K:Con} {g:Gh} {w:World}:∀(cs:List z0a) (vs:List Value),z7a cs=true→z2b K g w cs vs→vs=z8ja cs
 |[],vs,_,h=>by simpa[z2b,z8ja] using h
 |c::cs,vs,hm,h=>by
  simp only[z7a,Bool.and_eq_true] at hm
  simp only[z2b] at h
  obtain⟨x,xs,rfl,h1,h2⟩:=h
  rw[z8ja,←z7ub c x none hm.1 h1,←z8jb cs xs hm.2 h2]
end

structure z3bc (K:Cx) (S:Nat→Nat) (el:Nat→Option (List z0a)) (l:Nat) (J:Nat→(Nat→Prop)→World→Prop) (Jx:(Nat→Prop)→World→Prop) (N:Nat) (O0:Nat→Prop) (w:World):Prop where
 start:J 0 O0 w
 bound:∀i O A,J i O A→i≤N
 stab:∀i (O O':Nat→Prop) A B,J i O A→Fr A.heap.size O A B→(∀b,O' b→(O b∨A.heap.size≤b)∧b<B.heap.size)→J i O' B
 stabx:∀(O O':Nat→Prop) A B,Jx O A→Fr A.heap.size O A B→(∀b,O' b→(O b∨A.heap.size≤b)∧b<B.heap.size)→Jx O' B
 round:∀i O A xs q,J i O A→el i=some xs→YieldAt Fence.wide q K.P l (z8ja xs).toArray A fun e B=>
  z9d S w S B∧(∀b,O b→B.heap[b]? =A.heap[b]?)∧A.heap.size≤B.heap.size∧B.os=A.os∧B.tape=A.tape∧B.output=A.output∧
   ((e= .returned (.bool true)∧J (i+1) O B)∨(e= .returned (.bool false)∧Jx O B))

structure z1ma (K:Cx) (S:Nat→Nat) (w:World) (lv:List Nat) (B:Nat→Option Nat) (y:List z0a) (vy:List Value):Prop where
 len:y.length=vy.length
 at':∀(i:Nat) d v,y[i]? =some d→vy[i]? =some v→if i∈lv then∃b cs,B i=some b∧d= .ep cs∧v= .pointer (some ⟨b,0,none⟩)∧S b=0∧b<w.heap.size∧z7a cs=true∧∀(j:Nat) e,cs[j]? =some e→w.cell? ⟨b,j,none⟩=some (toV e)∧w.frozen? ⟨b,j,none⟩=false else z9b K.toCon S w d v
 inj:∀i j b,B i=some b→B j=some b→i=j
 dom:∀i b,B i=some b→i∈lv
 lt:∀i∈lv,i<y.length

def z8Ha (K:Cx) (f:Nat) (c:ItC):Prop:=
 z3z K.P (K.nu f)∧∀(S:Nat→Nat) (w:World) (x y:List z0a) (vx vy:List Value) (B:Nat→Option Nat),(∀n∈K.N.gs,z4b K.toCon S w (K.E.T n) (K.N.gnum n) 0)→z5a K.toCon S w x vx→z1ma K S w c.lv B y vy→c.pre x y→
  ∀l J Jx N,z3bc K S (c.el x y) l J Jx N (fun b=>∃i,B i=some b) w→
   Calls K.P (K.nu f) (vx++Value.func (.yield l) #[] #[]::vy).toArray w fun e B'=>∃v,e= .returned v∧∃O,(∀b,(∃i,B i=some b)→O b)∧((∃i,c.el x y i=none∧J i O B')∨Jx O B')

section
variable {K : Cx} {base : z4f} {n : Nat} {st : ASt} {a : Act} {w : World}

structure z9nc (K:Cx) (base:z4f) (st:ASt) (ks:List Nat) (a:Act) (l D:Nat) (S0:Nat→Nat) (w0 w1:World) (bx:List (Nat×Option (List z0a))) (O:Nat→Prop) (g:Gh) (A:World):Prop where
 inv:Inv K base g A (ASt.getB {org:=st.org,env:=z9t st ks,box:=bx})
 slots:z2v K g A (ASt.get {org:=st.org,env:=z9t st ks,box:=bx}) a
 apart:∀b,O b∨b=l∨b=D→z4n g b∧(base.w0.heap.size≤b∨base.W b)∧b<A.heap.size
 noL:¬O l
 noD:¬O D
 blkD:A.heap[D]? =some (.deferred (some []))
 kp:z9d S0 w1 g.S A

theorem z4nc (st:ASt) (ks:List Nat) (bx:List (Nat×Option (List z0a))) (s:Nat):ASt.get {org:=st.org,env:=z9t st ks,box:=bx} s=if s∈ks then dem (st.get s) else dem ((lk st.org s).getD .undef):=by
 show(match lk (z9t st ks) s with|some d=>d|none=>_)=_
 rw[show lk (z9t st ks) s=if s∈ks then some (dem (st.get s)) else none from z6sa (fun s=>dem (st.get s)) s ks]
 by_cases hs:s∈ks<;>simp[hs]

theorem z8Tb {g:Gh} {w:World} {ks:List Nat} {bx:List (Nat×Option (List z0a))} (h:∀s∈ks,Rep K.toCon g w none (dem (st.get s)) (a.tmps.getD s undef)) (ho:∀s d,lk st.org s=some d→z9b K.toCon g.S w d (a.tmps.getD s undef)):
  z2v K g w (ASt.get {org:=st.org,env:=z9t st ks,box:=bx}) a:=fun s=>by
 rw[z4nc]
 have hd:∀d:z0a,z5b (dem d)=false:=z9Ua
 split
 ·rename_i hs
  exact z80a _ (hd _) (h s hs)
 ·cases hl:lk st.org s with
  |none=>simp[Abs.dem,Rep]
  |some d=>exact z9b.dem (g:=g) _ (ho s d hl)

theorem z8Rc {ps:List Tmp}:∀{vs:List Value} {tmps:Array Value},ps.Nodup→ps.length=vs.length→(∀p∈ps,p<tmps.size)→
  (((ps.zip vs).foldl (fun t (x:Tmp×Value)=>t.setIfInBounds x.1 x.2) tmps).size=tmps.size∧
   (∀s,s∉ps→((ps.zip vs).foldl (fun t (x:Tmp×Value)=>t.setIfInBounds x.1 x.2) tmps).getD s undef=tmps.getD s undef)∧
   ∀(i:Nat) p v,ps[i]? =some p→vs[i]? =some v→((ps.zip vs).foldl (fun t (x:Tmp×Value)=>t.setIfInBounds x.1 x.2) tmps).getD p undef=v):=by
 induction ps with
 |nil=>intro vs tmps _ _ _;simp
 |cons p ps ih=>
  intro vs tmps hn hl hlt
  cases vs with
  |nil=>simp at hl
  |cons v vs=>
   rw[List.nodup_cons] at hn
   obtain⟨h1,h2,h3⟩:=ih (vs:=vs) (tmps:=tmps.setIfInBounds p v) hn.2 (by simpa using hl) (fun q hq=>by simp;exact hlt q (by simp[hq]))
   simp only[List.zip_cons_cons,List.foldl_cons]
   refine⟨by rw[h1];simp,fun s hs=> ?_,fun i q u hi hu=> ?_⟩
   ·simp only[List.mem_cons,not_or] at hs
    rw[h2 s hs.2,Array.getD_eq_getD_getElem?,Array.getElem?_setIfInBounds,if_neg (fun e=>hs.1 e.symm),←Array.getD_eq_getD_getElem?]
   ·cases i with
    |zero=>
     simp at hi hu
     subst hi hu
     rw[h2 p hn.1,Array.getD_eq_getD_getElem?,Array.getElem?_setIfInBounds]
     simp[hlt p (by simp)]
    |succ i=>exact h3 i q u (by simpa using hi) (by simpa using hu)

theorem z3mc {ps:List Nat} {xs:List z0a} {s:Nat} (h:s∉ps):lk (ps.zip xs) s=none:=by
 induction ps generalizing xs with
 |nil=>simp[lk]
 |cons p ps ih=>
  cases xs with
  |nil=>simp[lk]
  |cons x xs=>
   simp only[List.mem_cons,not_or] at h
   simp only[List.zip_cons_cons,lk,if_neg h.1]
   exact ih h.2
theorem z5Pb {ps:List Nat}:∀{xs:List z0a} {s:Nat},ps.length=xs.length→s∈ps→∃(i:Nat) (x:z0a),ps[i]? =some s∧xs[i]? =some x∧lk (ps.zip xs) s=some x:=by
 induction ps with
 |nil=>intro xs s _ h;cases h
 |cons p ps ih=>
  intro xs s hl h
  cases xs with
  |nil=>simp at hl
  |cons x xs=>
   simp only[List.zip_cons_cons,lk]
   by_cases e:s=p
   ·rw[if_pos e];exact⟨0,x,by simp[e],by simp,rfl⟩
   ·rw[if_neg e]
    obtain⟨i,y,h1,h2,h3⟩:=ih (xs:=xs) (by simpa using hl) ((List.mem_cons.1 h).resolve_left e)
    exact⟨i+1,y,by simpa using h1,by simpa using h2,h3⟩

theorem z7Rc {ks ps:List Nat} {qs:Array Tmp} {xs:List z0a} {bx:List (Nat×Option (List z0a))} {O:Nat→Prop} {g:Gh} {A:World} {l D:Nat} (hps:qs.toList=ps) (hnd:ps.Nodup) (hlt:∀p∈ps,p<n) (hsz:a.tmps.size=n)
  (hlen:xs.length=ps.length) (hmf:z7a xs=true) (hpk:∀p∈ps,p∉ks∧lk st.org p=none) (hO:z65 K base st a) {S0:Nat→Nat} {w1:World} (h:z9nc K base st ks a l D S0 w w1 bx O g A):
  Rel K ⟨A,Wr g,g.S,[],base.mu0⟩ n (z3oa st ks ps (fun s=>a.tmps.getD s undef) xs bx) {tmps:=(qs.zip (z8ja xs).toArray).foldl (fun t (x:Tmp×Value)=>t.setIfInBounds x.1 x.2) a.tmps,defers:=[]} A:=by
 have e1:(qs.zip (z8ja xs).toArray).foldl (fun t (x:Tmp×Value)=>t.setIfInBounds x.1 x.2) a.tmps=(ps.zip (z8ja xs)).foldl (fun t (x:Tmp×Value)=>t.setIfInBounds x.1 x.2) a.tmps:=by
  rw[←hps,←Array.foldl_toList,Array.toList_zip]
 obtain⟨f1,f2,f3⟩:=z8Rc (ps:=ps) (vs:=z8ja xs) (tmps:=a.tmps) hnd (by rw[z02b,hlen]) (fun p hp=>by rw[hsz];exact hlt p hp)
 rw[e1]
 refine⟨g,rebase h.inv,fun s=> ?_,fun s d hd=> ?_,rfl,by simp only;rw[f1,hsz]⟩
 ·have hg:ASt.get (z3oa st ks ps (fun s=>a.tmps.getD s undef) xs bx) s=if s∈ps then(lk (ps.zip xs) s).getD .undef else if s∈ks then dem (st.get s) else dem ((lk st.org s).getD .undef):=by
   show(match lk (ps.zip xs++z9t st ks) s with|some d=>d|none=>dem ((lk ((ks.map fun s=>(s,z0a.lit (a.tmps.getD s undef)))++st.org) s).getD .undef))=_
   rw[z4d,z4d,show lk (z9t st ks) s=if s∈ks then some (dem (st.get s)) else none from z6sa (fun s=>dem (st.get s)) s ks,
    show lk (ks.map fun s=>(s,z0a.lit (a.tmps.getD s undef))) s=if s∈ks then some (z0a.lit (a.tmps.getD s undef)) else none from z6sa (fun s=>z0a.lit (a.tmps.getD s undef)) s ks]
   by_cases hp:s∈ps
   ·obtain⟨i,x,_,_,e⟩:=z5Pb hlen.symm hp
    simp[e,hp]
   ·rw[z3mc hp]
    by_cases hk:s∈ks<;>simp[hp,hk]
  rw[hg]
  by_cases hp:s∈ps
  ·obtain⟨i,x,h1,h2,e⟩:=z5Pb hlen.symm hp
   rw[if_pos hp,e,Option.getD_some]
   have hv:(z8ja xs)[i]? =some (toV x):=by rw[z3yc,h2];rfl
   rw[f3 i s _ h1 hv]
   have hmx:∀(cs:List z0a) (i:Nat) (c:z0a),z7a cs=true→cs[i]? =some c→z6c c=true:=fun cs=>by
    induction cs with
    |nil=>intro i c _ h;simp at h
    |cons c cs ih=>
     intro i d hm hd
     simp only[z7a,Bool.and_eq_true] at hm
     cases i with
     |zero=>simp at hd;subst hd;exact hm.1
     |succ i=>exact ih i d hm.2 (by simpa using hd)
   exact z5Vb x _ (hmx xs i x hmf h2)
  ·rw[if_neg hp,f2 s hp]
   have:=h.slots s
   rw[z4nc] at this
   exact this
 ·show z9b K.toCon _ A d _
  have hd':lk ((ks.map fun s=>(s,z0a.lit (a.tmps.getD s undef)))++st.org) s=some d:=hd
  rw[z4d,show lk (ks.map fun s=>(s,z0a.lit (a.tmps.getD s undef))) s=if s∈ks then some (z0a.lit (a.tmps.getD s undef)) else none from z6sa (fun s=>z0a.lit (a.tmps.getD s undef)) s ks] at hd'
  by_cases hk:s∈ks
  ·rw[if_pos hk] at hd'
   simp only[Option.some_or,Option.some.injEq] at hd'
   subst hd'
   have hp:s∉ps:=fun hp=>(hpk s hp).1 hk
   simp only[z9b]
   rw[f2 s hp]
  ·rw[if_neg hk] at hd'
   simp only[Option.none_or] at hd'
   have hp:s∉ps:=fun hp=>by have:=(hpk s hp).2;rw[hd'] at this;cases this
   rw[f2 s hp]
   exact z9b.mono (z5gb h.inv) d _ (hO s d hd')

def recL (fn:FuncId) (a:Act) (qs:Array Tmp) (p q:Code) (D:Nat) (s:LoopState) (pe:Option Code):Loop:={state:=s,pending:=pe,fn,tmps:=a.tmps,params:=qs,assign:=p,body:=q,defers:=D}

theorem z6r (A:World) (l:Nat) (o:Obj):Fr A.heap.size (fun b=>b=l) A (A.putObj l o):=by
 refine⟨rfl,rfl,rfl,by simp[World.putObj],fun k _ hk=> ?_⟩
 exact World.putObj_heap_other hk

theorem z6Dc {P:Program} {ev:Operand→Value} {G:Operand} {f:FuncId} {first caps:Array Value} (h:ev G= .func (.func f) first caps) (hc:∀v,ev (.const v)=v) (l:Nat) (w:World):
  (resolve ev (rangeCall G l) 0).run P w= .ok {target:= .fn (.func f) caps,args:=first++ #[.func (.yield l) #[] #[]]} w:=by
 simp only[resolve,h]
 simp[go_sem,hc]

theorem z6Ec (va vc:Array Value) (y:Value):(va.toList++y::vc.toList).toArray=va++ #[y]++vc:=by
 apply Array.toList_inj.1;simp

def z2zb (g:Gh) (ids:List Nat):Gh:={g with mu:=fun id=>if id∈ids then none else g.mu id}
theorem z7ic {g:Gh} {ids:List Nat} {d:z0a} {v:Value} {l:Option Loc} (hd:∀id∈z3d d,id∉ids) (hr:Rep K.toCon g w l d v):Rep K.toCon (z2zb g ids) w l d v:=
 Rep.mono (g:=g) (g':=z2zb g ids) (z9d.refl g.S w) d v l l (fun id hid b hb=>by simp only[z2zb,if_neg (hd id hid)];exact hb) (fun m hm=>⟨m,hm,fun b hb=>⟨hb,rfl,fun _ _ h=>h⟩⟩) hr
theorem z4Pc {g:Gh} {ids:List Nat} {o e:List (Nat×z0a)} (hI:Inv K base g w st.getB) (h2:∀p∈st.box,p.1∈ids∨∀cs,p.2=some cs→∀id∈z6b cs,id∉ids):
  Inv K base (z2zb g ids) w (ASt.getB {org:=o,env:=e,box:=rmB ids st.box}):=by
 have hgetB:∀id,ASt.getB {org:=o,env:=e,box:=rmB ids st.box} id=if id∈ids then none else st.getB id:=fun id=>by
  simp only[ASt.getB,rmB]
  rw[z2za (fun k=> !ids.contains k)]
  by_cases hi:id∈ids
  ·simp[hi]
  ·simp[hi]
 refine⟨hI.fr,hI.sS,fun i j b hi hj=> ?_,fun id cs hc=> ?_,fun id hid=> ?_,fun id b hb=> ?_,hI.owW,hI.glob,hI.kp,fun id b cs ho hb hc hd=> ?_,fun j x h1 h2 hx=>by
  simp only[z2zb] at hx
  split at hx
  ·cases hx
  ·exact hI.old j x h1 h2 hx⟩
 ·simp only[z2zb] at hi hj
  split at hi
  ·cases hi
  ·split at hj
   ·cases hj
   ·exact hI.inj i j b hi hj
 ·rw[hgetB] at hc
  split at hc
  ·cases hc
  ·rename_i hni
   obtain⟨b,k1,k2,k3⟩:=hI.bxok id cs hc
   refine⟨b,by simp only[z2zb,if_neg hni];exact k1,k2,fun i d hi=> ?_⟩
   obtain⟨⟨x,h4,h5⟩,h6⟩:=k3 i d hi
   have hbox:∃c,lk st.box id=some (some c)∧c=cs:=by
    simp only[ASt.getB] at hc
    cases hl:lk st.box id with
    |none=>rw[hl] at hc;cases hc
    |some o=>rw[hl] at hc;simp only[Option.join_some] at hc;exact⟨cs,by rw[hc],rfl⟩
   obtain⟨c,hl,rfl⟩:=hbox
   have:=(h2 _ (z15a hl)).resolve_left hni c rfl
   exact⟨⟨x,h4,z7ic (fun id' hid'=>this id' (z34a (z9va hi) hid')) h5⟩,h6⟩
 ·rw[hgetB] at hid
  simp only[z2zb]
  split
  ·rfl
  ·rename_i hni;rw[if_neg hni] at hid;exact hI.nobx id hid
 ·simp only[z2zb] at hb
  split at hb
  ·cases hb
  ·exact hI.muW id b hb
 ·simp only[z2zb] at hb
  rw[hgetB] at hc
  split at hc
  ·cases hc
  ·rename_i hni
   rw[if_neg hni] at hb
   exact hI.obok id b cs ho hb hc hd
theorem z4bc {lv:List Nat} {y:List z0a} {id:Nat}:id∈z7i lv y↔∃i∈lv,y[i]? =some (.bp id 0):=by
 simp only[z7i,List.mem_filterMap]
 constructor
 ·rintro⟨i,hi,h⟩
  refine⟨i,hi,?_⟩
  split at h
  ·rename_i e;rw[e];cases h;rfl
  ·cases h
 ·rintro⟨i,hi,h⟩
  exact⟨i,hi,by simp[h]⟩
def lvB (g:Gh) (lv:List Nat) (y:List z0a) (i:Nat):Option Nat:=if i∈lv then(match y[i]? with|some (.bp id 0)=>g.mu id|_=>none) else none
theorem z9Ob {g:Gh} {lv:List Nat} {y:List z0a} {i b:Nat} (h:lvB g lv y i=some b):i∈lv∧∃id,y[i]? =some (.bp id 0)∧g.mu id=some b:=by
 unfold lvB at h
 split at h
 ·rename_i hi
  split at h
  ·rename_i id e
   exact⟨hi,id,e,h⟩
  ·cases h
 ·cases h
theorem z2pd {g:Gh} {ks lv:List Nat} {x y:List z0a} {vy:List Value} (hI:Inv K base g w st.getB) (hok:z4ha st ks lv x y) (hr:z2b K.toCon g w y vy):z1ma K g.S w lv (lvB g lv y) (epY st.getB lv y) vy:=by
 obtain⟨hp,h1,h2,_,_⟩:=hok
 have hl:(epY st.getB lv y).length=y.length:=by simp[epY]
 refine⟨by rw[hl];exact hr.len,fun i d v hd hv=> ?_,fun i j b hi hj=> ?_,fun i b hi=>(z9Ob hi).1,fun i hi=> ?_⟩
 ·rw[z5fd] at hd
  cases hy:y[i]? with
  |none=>rw[hy] at hd;cases hd
  |some d'=>
   rw[hy] at hd
   simp only[Option.map_some,Option.some.injEq] at hd
   obtain⟨v',hv',hrep⟩:=hr.get i d' hy
   rw[hv] at hv'
   cases hv'
   by_cases hi:i∈lv
   ·rw[if_pos hi]
    obtain⟨id,cs,e1,_,e2,e3⟩:=h1 i hi
    rw[hy] at e1
    cases e1
    rw[if_pos hi] at hd
    simp only[e2,Option.getD_some] at hd
    simp only[Rep] at hrep
    obtain⟨b,hb,rfl⟩:=hrep
    obtain⟨b',k1,k2,k3⟩:=hI.bxok id cs e2
    rw[hb] at k1
    cases k1
    refine⟨b,cs,by simp only[lvB,if_pos hi,hy];exact hb,hd.symm,rfl,k2,(hI.muW id b hb).2.1,e3,fun j e he=> ?_⟩
    obtain⟨⟨z,hz,hrz⟩,hf⟩:=k3 j e he
    have hme:z6c e=true:=by
     have:∀(cs:List z0a) (j:Nat),z7a cs=true→cs[j]? =some e→z6c e=true:=fun cs=>by
      induction cs with
      |nil=>intro j _ h;simp at h
      |cons c cs ih=>
       intro j hm hd
       simp only[z7a,Bool.and_eq_true] at hm
       cases j with
       |zero=>simp at hd;subst hd;exact hm.1
       |succ j=>exact ih j hm.2 (by simpa using hd)
     exact this cs j e3 he
    rw[←z7ub e z _ hme hrz]
    exact⟨hz,hf⟩
   ·rw[if_neg hi]
    rw[if_neg hi] at hd
    subst hd
    have hpu:z0b d'=true:=by
     have:=(z4i _).1 hp d' (List.mem_append_right _ (by
      have hh:(epY st.getB lv y)[i]? =some d':=by rw[z5fd,hy];simp[hi]
      exact List.mem_of_getElem? hh))
     exact this
    exact Rep.pure d' v none hpu hrep
 ·obtain⟨a1,id,a2,a3⟩:=z9Ob hi
  obtain⟨b1,jd,b2,b3⟩:=z9Ob hj
  have:=hI.inj id jd b a3 b3
  subst this
  exact h2 i a1 j b1 (by rw[a2,b2])
 ·obtain⟨id,cs,e1,_⟩:=h1 i hi
  rw[hl]
  exact(List.getElem?_eq_some_iff.1 e1).1
theorem z1ma.keep {S S':Nat→Nat} {w':World} {lv:List Nat} {B:Nat→Option Nat} {y:List z0a} {vy:List Value} (hk:z9d S w S' w') (h0:∀i b,B i=some b→S' b=0) (hs:w.heap.size≤w'.heap.size) (hb:∀i b,B i=some b→w'.heap[b]? =w.heap[b]?) (h:z1ma K S w lv B y vy):z1ma K S' w' lv B y vy:=by
 refine⟨h.len,fun i d v hd hv=> ?_,h.inj,h.dom,h.lt⟩
 have:=h.at' i d v hd hv
 by_cases hi:i∈lv
 ·rw[if_pos hi] at this⊢
  obtain⟨b,cs,k1,k2,k3,_,k5,k6,k7⟩:=this
  refine⟨b,cs,k1,k2,k3,h0 i b k1,by omega,k6,fun j e he=> ?_⟩
  obtain⟨c1,c2⟩:=k7 j e he
  have hbk:=hb i b k1
  refine⟨?_,?_⟩
  ·rw[World.cell?_of_block (w:=w) (a:=⟨b,j,none⟩) hbk];exact c1
  ·simp only[World.frozen?,hbk] at c2⊢;exact c2
 ·rw[if_neg hi] at this⊢
  exact z9b.mono hk d v this

theorem z73c (ids:List Nat) (st:ASt) (s:Nat):(z7r ids st).get s= .undef∨(z7r ids st).get s=st.get s:=by
 have e:lk (z7r ids st).env s=(lk st.env s).map fun d=>if(z3d d).any (ids.contains ·) then .undef else d:=z31b (fun d=>if(z3d d).any (ids.contains ·) then z0a.undef else d) s st.env
 unfold ASt.get
 rw[e]
 cases lk st.env s with
 |none=>exact .inr rfl
 |some d=>
  simp only[Option.map_some]
  split
  ·exact .inl rfl
  ·exact .inr rfl
theorem z1Lc {ids:List Nat} {st:ASt} {s:Nat} (h:∀id∈z3d (st.get s),id∉ids):(z7r ids st).get s=st.get s:=by
 have e:lk (z7r ids st).env s=(lk st.env s).map fun d=>if(z3d d).any (ids.contains ·) then .undef else d:=z31b (fun d=>if(z3d d).any (ids.contains ·) then z0a.undef else d) s st.env
 unfold ASt.get at h⊢
 rw[e]
 cases hl:lk st.env s with
 |none=>rfl
 |some d=>
  rw[hl] at h
  simp only[Option.map_some]
  rw[if_neg]
  simp only[List.any_eq_true,List.contains_eq_mem,decide_eq_true_eq,not_exists,not_and]
  exact h
def z0ib (g gB:Gh) (ids:List Nat):Gh:={gB with mu:=fun id=>if id∈ids then g.mu id else gB.mu id}
theorem z8Ac {g gB:Gh} {ids:List Nat} (hn:∀id∈ids,gB.mu id=none) {d:z0a} {v:Value} {l:Option Loc} (hr:Rep K.toCon gB w l d v):Rep K.toCon (z0ib g gB ids) w l d v:=
 Rep.mono (g:=gB) (g':=z0ib g gB ids) (z9d.refl gB.S w) d v l l (fun id _ b hb=>by
  simp only[z0ib]
  split
  ·rename_i h;rw[hn id h] at hb;cases hb
  ·exact hb) (fun m hm=>⟨m,hm,fun b hb=>⟨hb,rfl,fun _ _ h=>h⟩⟩) hr
theorem z1cd {g gB:Gh} {ids:List Nat} {o e o' e':List (Nat×z0a)} {bx:List (Nat×Option (List z0a))} (hI:Inv K base gB w (ASt.getB {org:=o,env:=e,box:=bx})) (hn:∀id∈ids,(lk bx id).join=none) (hlt:∀id∈ids,id<1000000)
  (hinj:∀i j b,g.mu i=some b→g.mu j=some b→i=j) (hold:∀id b,400000≤id→id<500000→g.mu id=some b→base.mu0 id=some b) (hap:∀id∈ids,∃b,g.mu id=some b∧z4n gB b∧(base.w0.heap.size≤b∨base.W b)∧b<w.heap.size):
  Inv K base (z0ib g gB ids) w (ASt.getB {org:=o',env:=e',box:=bkB ids bx}):=by
 have hmn:∀id∈ids,gB.mu id=none:=fun id hid=>hI.nobx id (hn id hid)
 have hgetB:∀id,ASt.getB {org:=o',env:=e',box:=bkB ids bx} id=if id∈ids then some [] else ASt.getB {org:=o,env:=e,box:=bx} id:=fun id=>by
  simp only[ASt.getB,bkB,z4d]
  have:lk (ids.map fun id=>(id,(some []:Option (List z0a)))) id=if id∈ids then some (some []) else none:=by
   induction ids with
   |nil=>simp[lk]
   |cons t l ih=>
    simp only[List.map_cons,lk,List.mem_cons]
    by_cases h:id=t
    ·simp[h]
    ·rw[if_neg h,ih (fun i hi=>hn i (by simp[hi])) (fun i hi=>hlt i (by simp[hi])) (fun i hi=>hap i (by simp[hi])) (fun i hi=>hmn i (by simp[hi]))]
     simp[h]
  rw[this]
  by_cases h:id∈ids<;>simp[h]
 have rep:∀{d:z0a} {v:Value} {l:Option Loc},Rep K.toCon gB w l d v→Rep K.toCon (z0ib g gB ids) w l d v:=fun hr=>z8Ac hmn hr
 refine⟨hI.fr,hI.sS,fun i j b hi hj=> ?_,fun id cs hc=> ?_,fun id hid=> ?_,fun id b hb=> ?_,hI.owW,hI.glob,hI.kp,fun id b cs ho hb hc hd=> ?_,fun j x h1 h2 hx=>by
  simp only[z0ib] at hx
  split at hx
  ·exact hold j x h1 h2 hx
  ·exact hI.old j x h1 h2 hx⟩
 ·simp only[z0ib] at hi hj
  split at hi
  ·rename_i h1
   split at hj
   ·exact hinj i j b hi hj
   ·obtain⟨b',k1,k2,_⟩:=hap i h1
    rw[hi] at k1;cases k1
    exact absurd hj (k2.2.1 j)
  ·split at hj
   ·rename_i h2
    obtain⟨b',k1,k2,_⟩:=hap j h2
    rw[hj] at k1;cases k1
    exact absurd hi (k2.2.1 i)
   ·exact hI.inj i j b hi hj
 ·rw[hgetB] at hc
  split at hc
  ·rename_i h
   cases hc
   obtain⟨b,k1,k2,_⟩:=hap id h
   exact⟨b,by simp only[z0ib,if_pos h];exact k1,k2.1,fun i d hi=>by simp at hi⟩
  ·rename_i h
   obtain⟨b,k1,k2,k3⟩:=hI.bxok id cs hc
   refine⟨b,by simp only[z0ib,if_neg h];exact k1,k2,fun i d hi=> ?_⟩
   obtain⟨⟨x,h4,h5⟩,h6⟩:=k3 i d hi
   exact⟨⟨x,h4,rep h5⟩,h6⟩
 ·rw[hgetB] at hid
  split at hid
  ·cases hid
  ·rename_i h;simp only[z0ib,if_neg h];exact hI.nobx id hid
 ·simp only[z0ib] at hb
  split at hb
  ·rename_i h
   obtain⟨b',k1,k2,k3,k4⟩:=hap id h
   rw[hb] at k1;cases k1
   exact⟨k3,k4,k2.2.2⟩
  ·exact hI.muW id b hb
 ·simp only[z0ib] at hb
  split at hb
  ·rename_i h
   have:=hlt id h
   omega
  ·rename_i h
   rw[hgetB,if_neg h] at hc
   exact hI.obok id b cs ho hb hc hd

set_option maxHeartbeats 1000000 in
theorem z9rc {f:Nat} {t:Arg} {ks ps:List Nat} {as bd:z1c} {G:Operand} {qs:Array Tmp} {p q:Code} {Q:z5c→ASt→Prop} {m:Nat}
  (hg:z8ua K G t=true) (hps:qs.toList=ps) (hlt:∀x∈ps,x<n) (hnd:ps.Nodup) (hV:z8Ha K f (K.E.I f))
  (hA:∀(l m':Nat) (base:z4f) (st:ASt) (a:Act) (w:World) (Q:z5c→ASt→Prop),awp K.E as Q st→Rel K base n st a w→p.wpIn (WF (some l)) m' K.P (z2Mb K base n Q) a w)
  (hB:∀(l m':Nat) (base:z4f) (st:ASt) (a:Act) (w:World) (Q:z5c→ASt→Prop),awp K.E bd Q st→Rel K base n st a w→q.wpIn (WF (some l)) m' K.P (z2Mb K base n Q) a w)
  (h:awp K.E (.range f t ks ps as bd) Q st) (hR:Rel K base n st a w):(Code.rangeFunc G qs p q).wpIn (WF none) m K.P (z2Mb K base n Q) a w:=by
 simp only[awp] at h
 obtain⟨x,y,hx,hpure,hpre,hpk,N,I,hI0,hIb,hIdone,hIround⟩:=h
 obtain⟨g,hI,hS,hO,hd,hsz⟩:=hR
 have hrep:=z3qa hI hS hg
 rw[hx] at hrep
 simp only[Rep] at hrep
 obtain⟨va,vc,hev,hr1,hr2⟩:=hrep
 have hpx:z8b x=true:=(z4i x).2 fun c hc=>(z4i _).1 hpure.1 c (by simp[hc])
 obtain⟨lv,hlv⟩:∃lv,lv=(K.E.I f).lv:=⟨_,rfl⟩
 obtain⟨ids,hids⟩:∃ids,ids=z7i lv y:=⟨_,rfl⟩
 have hyr:=z2pd hI hpure hr2
 rw[←hlv] at hyr hpure hpre hI0 hIdone hIround
 rw[←hids] at hI0 hIdone hIround
 obtain⟨_,hlive,_,hksI,hbxI⟩:=hpure
 rw[←hids] at hksI hbxI
 obtain⟨stH,hstH⟩:∃stH,stH=z7r ids st:=⟨_,rfl⟩
 rw[←hstH] at hksI hIround
 have horgH:stH.org=st.org:=by rw[hstH];rfl
 obtain⟨B0,hB0⟩:∃B0,B0=lvB g lv y:=⟨_,rfl⟩
 rw[←hB0] at hyr
 have hB0s:∀i b,B0 i=some b→∃id∈ids,g.mu id=some b:=fun i b hb=>by
  rw[hB0] at hb
  obtain⟨k1,id,k2,k3⟩:=z9Ob hb
  exact⟨id,by rw[hids];exact z4bc.2 ⟨i,k1,k2⟩,k3⟩
 obtain⟨g0,hg0⟩:∃g0,g0=z2zb g ids:=⟨_,rfl⟩
 have hI00:Inv K base g0 w (ASt.getB {org:=stH.org,env:=z9t stH ks,box:=rmB ids st.box}):=by rw[hg0];exact z4Pc hI hbxI
 have hS00:∀s∈ks,Rep K.toCon g0 w (some (.slot s)) (stH.get s) (a.tmps.getD s undef):=fun s hs=>by
  rw[hg0]
  rcases z73c ids st s with h1|h1
  ·rw[hstH,h1];simp[Rep]
  ·rcases hksI s hs with h2|h2
   ·rw[hstH,h1];exact z7ic h2 (hS s)
   ·rw[h2.2];simp[Rep]
 have hOH:z65 K base stH a:=fun s d hs=>hO s d (by rw[←horgH];exact hs)
 refine wpIn_rangeFunc fun fn _=> ?_
 rw[z89c]
 obtain⟨D,hD⟩:∃D,D=w.heap.size:=⟨_,rfl⟩
 obtain⟨l,hl⟩:∃l,l=D+1:=⟨_,rfl⟩
 obtain⟨rec,hrec⟩:∃rec,rec=recL fn a qs p q D:=⟨_,rfl⟩
 obtain⟨W1,hW1⟩:∃W1,(w.alloc (.deferred (some []))).alloc (.loop (rec .ready none))=W1:=⟨_,rfl⟩
 have hs1:(w.alloc (.deferred (some []))).heap.size=l:=by simp[hl,hD]
 have hsW:W1.heap.size=l+1:=by rw[←hW1];simp[hl,hD]
 have hlW:W1.heap[l]? =some (.loop (rec .ready none)):=by
  rw[←hW1,←hs1];exact World.alloc_heap_new _ _
 have hDW:W1.heap[D]? =some (.deferred (some [])):=by
  rw[←hW1,hD];exact(RowKit.Below.heap_alloc _ _ _ (by simp)).trans (World.alloc_heap_new w _)
 obtain⟨g1,hg1⟩:∃g1,g1=z7Ra (z7Ra g0 D 0 none) l 0 none:=⟨_,rfl⟩
 have hI1:Inv K base g1 W1 (ASt.getB {org:=stH.org,env:=z9t stH ks,box:=rmB ids st.box}):=by
  have k1:=z46a hI00 (.deferred (some [])) 0 none
  have k2:=z46a k1 (.loop (rec .ready none)) 0 none
  rw[hs1,←hD,hW1,←hg1] at k2
  exact k2
 have hx1:Ext g0 w g1 W1:=by
  have k1:=z46a hI00 (.deferred (some [])) 0 none
  have e1:=z9Wa hI00 (.deferred (some [])) 0 none
  have e2:=z9Wa k1 (.loop (rec .ready none)) 0 none
  rw[hs1,←hD,hW1,←hg1] at e2
  rw[←hD] at e1
  exact⟨e1.keeps.trans e2.keeps,fun id b hb=>e2.mu id b (e1.mu id b hb),fun m b hb=>by
   obtain⟨a1,a2,a3⟩:=e1.own m b hb
   obtain⟨b1,b2,b3⟩:=e2.own m b a1
   exact⟨b1,b2.trans a2,fun o n ht=>b3 o n (a3 o n ht)⟩⟩
 have hS1:∀s∈ks,Rep K.toCon g1 W1 (some (.slot s)) (stH.get s) (a.tmps.getD s undef):=fun s hs=>hx1.rep (hS00 s hs)
 have hfr1:base.w0.heap.size≤D:=by rw[hD];exact hI.fr.size
 have apD:z4n g1 D:=by
  refine⟨by rw[hg1];simp[z7Ra],fun id hi=> ?_,by rw[hg1];simp[z7Ra]⟩
  have:g0.mu id=some D:=by rw[hg1] at hi;exact hi
  have:=(hI00.muW id D this).2.1
  omega
 have apl:z4n g1 l:=by
  refine⟨by rw[hg1];simp[z7Ra],fun id hi=> ?_,by rw[hg1];simp[z7Ra]⟩
  have:g0.mu id=some l:=by rw[hg1] at hi;exact hi
  have:=(hI00.muW id l this).2.1
  omega
 -- what holds between the rounds
 let J:Nat→(Nat→Prop)→World→Prop:=fun i O A=>∃bx gA,I i bx∧z9nc K base stH ks a l D g1.S w W1 bx O gA A∧A.heap[l]? =some (.loop (rec .ready none))
 let Jx:(Nat→Prop)→World→Prop:=fun O A=>∃bx gA e jc,(e=z5c.ret∧jc=Code.ret∨∃id,e= .exit id∧jc= .exit id)∧z95 st ks ids Q e bx∧z9nc K base stH ks a l D g1.S w W1 bx O gA A∧A.heap[l]? =some (.loop (rec .done (some jc)))
 have outer_stab:∀bx gA (O O':Nat→Prop) A B,z9nc K base stH ks a l D g1.S w W1 bx O gA A→Fr A.heap.size O A B→(∀b,O' b→(O b∨A.heap.size≤b)∧b<B.heap.size)→
   ∃gB,z9nc K base stH ks a l D g1.S w W1 bx O' gB B∧B.heap[l]? =A.heap[l]? :=fun bx gA O O' A B ho hfr hO'=>by
  have hap:∀b,O b→z4n gA b∧(base.w0.heap.size≤b∨base.W b):=fun b hb=>⟨(ho.apart b (.inl hb)).1,(ho.apart b (.inl hb)).2.1⟩
  have hlA:=(ho.apart l (.inr (.inl rfl))).2.2
  have hDA:=(ho.apart D (.inr (.inr rfl))).2.2
  -- what the iterator laid is apart: its cells are stable nowhere
  let gB:Gh:={gA with S:=fun b=>if b<A.heap.size then gA.S b else 0}
  have hkA:z9d gA.S A gB.S A:=fun b i v hi hc=>by
   have:=World.block_lt_of_cell? A ⟨b,i,none⟩ hc
   exact⟨by simp only[gB,if_pos this];exact hi,hc⟩
  have repA:∀{d:z0a} {v:Value} {lo:Option Loc},Rep K.toCon gA A lo d v→Rep K.toCon gB A lo d v:=fun {d v lo} hr=>
   Rep.mono (g:=gA) (g':=gB) hkA d v lo lo (fun _ _ _ hb=>hb) (fun m hm=>⟨m,hm,fun b hb=>⟨hb,by simp only[gB,if_pos (ho.inv.owW b m hb).2],fun _ _ h=>h⟩⟩) hr
  have hIA:Inv K base gB A (ASt.getB {org:=stH.org,env:=z9t stH ks,box:=bx}):=by
   refine⟨ho.inv.fr,fun b hb hw=> ?_,ho.inv.inj,fun id cs hc=> ?_,ho.inv.nobx,ho.inv.muW,ho.inv.owW,fun n hn=>z4b.mono hkA _ _ _ (ho.inv.glob n hn),ho.inv.kp.trans hkA,ho.inv.obok,ho.inv.old⟩
   ·simp only[gB,if_pos (Nat.lt_of_lt_of_le hb ho.inv.fr.size)]
    exact ho.inv.sS b hb hw
   ·obtain⟨b,k1,k2,k3⟩:=ho.inv.bxok id cs hc
    refine⟨b,k1,by simp only[gB,if_pos (ho.inv.muW id b k1).2.1];exact k2,fun i d hi=> ?_⟩
    obtain⟨⟨v,hv,hr⟩,hz⟩:=k3 i d hi
    exact⟨⟨v,hv,repA hr⟩,hz⟩
  have hapB:∀b,z4n gA b→z4n gB b:=fun b hb=>⟨by simp only[gB];split;exact hb.1;rfl,hb.2.1,hb.2.2⟩
  have hap':∀b,O b→z4n gB b∧(base.w0.heap.size≤b∨base.W b):=fun b hb=>⟨hapB b (hap b hb).1,(hap b hb).2⟩
  have new:∀b,A.heap.size≤b→z4n gB b:=fun b hb=>by
   refine⟨by simp only[gB,if_neg (Nat.not_lt.2 hb)],fun id hi=> ?_,?_⟩
   ·have:=(ho.inv.muW id b hi).2.1;omega
   ·cases hlo:gA.ow b with
    |none=>rfl
    |some lo=>have:=(ho.inv.owW b lo hlo).2;omega
  have hlt':∀b lo,gB.ow b=some lo→b<A.heap.size:=fun b lo hb=>(ho.inv.owW b lo hb).2
  refine⟨gB,⟨z2Y hIA hfr hap',fun s=>z1D hfr (fun b hb=>(hap' b hb).1) hlt' (repA (ho.slots s)),fun b hb=> ?_,fun hb=> ?_,fun hb=> ?_,?_,?_⟩,?_⟩
  ·rcases hb with hb|rfl|rfl
   ·obtain⟨h1,h2⟩:=hO' b hb
    rcases h1 with h1|h1
    ·exact⟨hapB b (ho.apart b (.inl h1)).1,(ho.apart b (.inl h1)).2.1,h2⟩
    ·exact⟨new b h1,.inl (Nat.le_trans ho.inv.fr.size h1),h2⟩
   ·exact⟨hapB _ (ho.apart _ (.inr (.inl rfl))).1,(ho.apart _ (.inr (.inl rfl))).2.1,Nat.lt_of_lt_of_le hlA hfr.size⟩
   ·exact⟨hapB _ (ho.apart _ (.inr (.inr rfl))).1,(ho.apart _ (.inr (.inr rfl))).2.1,Nat.lt_of_lt_of_le hDA hfr.size⟩
  ·rcases(hO' l hb).1 with h1|h1
   ·exact ho.noL h1
   ·omega
  ·rcases(hO' D hb).1 with h1|h1
   ·exact ho.noD h1
   ·omega
  ·rw[hfr.block D hDA ho.noD];exact ho.blkD
  ·exact(ho.kp.trans hkA).trans (z3q hfr fun b hb=>(hap' b hb).1)
  ·exact hfr.block l hlA ho.noL
 have hB0lt:∀i b,B0 i=some b→b<w.heap.size:=fun i b hb=>by
  obtain⟨id,_,hm⟩:=hB0s i b hb
  exact(hI.muW id b hm).2.1
 have hB0ap:∀i b,B0 i=some b→z4n g1 b:=fun i b hb=>by
  obtain⟨id,hid,hm⟩:=hB0s i b hb
  have hlt:=hB0lt i b hb
  have hbl:b≠l:=by omega
  have hbD:b≠D:=by omega
  have hSb:g.S b=0:=by
   have hne:st.getB id≠none:=fun e=>by have:=hI.nobx id e;rw[hm] at this;cases this
   cases hc:st.getB id with
   |none=>exact absurd hc hne
   |some cs=>
    obtain⟨b',k1,k2,_⟩:=hI.bxok id cs hc
    rw[hm] at k1;cases k1;exact k2
  have ow0:=(hI.muW id b hm).2.2
  refine⟨by rw[hg1,hg0];simp[z7Ra,z2zb,hbl,hbD,hSb],fun jd hj=> ?_,by rw[hg1,hg0];simp[z7Ra,z2zb,hbl,hbD,ow0]⟩
  have hj':(z2zb g ids).mu jd=some b:=by rw[hg1,hg0] at hj;exact hj
  simp only[z2zb] at hj'
  split at hj'
  ·cases hj'
  ·rename_i hn
   have:=hI.inj jd id b hj' hm
   exact hn (this▸hid)
 have start:J 0 (fun b=>∃i,B0 i=some b) W1:=by
  refine⟨rmB ids st.box,g1,hI0,⟨?_,?_,fun b hb=> ?_,fun h=> ?_,fun h=> ?_,hDW,z9d.refl _ _⟩,hlW⟩
  ·exact hI1
  ·refine z8Tb (fun s hs=> ?_) (fun s d hs=> ?_)
   ·exact Rep.dem none (hS1 s hs)
   ·exact z9b.mono (z7Ba hI1) d _ (hOH s d hs)
  ·rcases hb with⟨i,hb⟩|rfl|rfl
   ·obtain⟨id,hid,hm⟩:=hB0s i b hb
    exact⟨hB0ap i b hb,(hI.muW id b hm).1,by have:=hB0lt i b hb;omega⟩
   ·exact⟨apl,.inl (by omega),by omega⟩
   ·exact⟨apD,.inl (by omega),by omega⟩
  ·obtain⟨i,hi⟩:=h
   have:=hB0lt i l hi;omega
  ·obtain⟨i,hi⟩:=h
   have:=hB0lt i D hi;omega
 have rounds:z3bc K g1.S ((K.E.I f).el x (epY st.getB lv y)) l J Jx N (fun b=>∃i,B0 i=some b) W1:=by
  refine⟨start,fun i O A ⟨bx,gA,hi,_⟩=>hIb i bx hi,fun i O O' A B hj hfr hO'=> ?_,fun O O' A B hj hfr hO'=> ?_,fun i O A xs q' hj hel=> ?_⟩
  ·obtain⟨bx,gA,hi,ho,hlA⟩:=hj
   obtain⟨gB,h1,h2⟩:=outer_stab bx gA O O' A B ho hfr hO'
   exact⟨bx,gB,hi,h1,by rw[h2];exact hlA⟩
  ·obtain⟨bx,gA,e,jc,he,hq,ho,hlA⟩:=hj
   obtain⟨gB,h1,h2⟩:=outer_stab bx gA O O' A B ho hfr hO'
   exact⟨bx,gB,e,jc,he,hq,h1,by rw[h2];exact hlA⟩
  ·obtain⟨bx,gA,hi,ho,hlA⟩:=hj
   obtain⟨hlen,hmf,hw⟩:=hIround i bx xs hi hel
   have hal:=ho.apart l (.inr (.inl rfl))
   have haD:=ho.apart D (.inr (.inr rfl))
   have hqs:(z8ja xs).toArray.size=qs.size:=by
    simp only[List.size_toArray,z02b,hlen,←hps,Array.length_toList]
   have hy:=run_yield (P:=K.P) (args:=(z8ja xs).toArray) hlA (by rw[hrec];exact hqs)
   rw[hrec] at hy
   refine⟨_,_,_,_,hy,roundIn_of_wpIn (n:=q') trivial ?_⟩
   have hR0:=z7Rc (xs:=xs) (qs:=qs) hps hnd hlt hsz hlen hmf (by rw[horgH];exact hpk) hOH ho
   refine wpIn_mono (hA l q' _ _ _ A _ (hw (fun s=>a.tmps.getD s undef)) hR0) ?_
   intro e a1 w1 hl1
   cases e with
   |normal=>
    simp only[z2Mb] at hl1
    obtain⟨base1,hE1,st1,hR1,hq1⟩:=hl1
    simp only[z2l] at hq1
    obtain⟨gb,hIb1,hSb,hOb,hdb,hszb⟩:=hR1
    have hIr:=hE1.inv _ _ _ hIb1
    have hl1':w1.heap[l]? =some (.loop (rec .ready none)):=by rw[z8kb hIr hal.2.2 hal.1];exact hlA
    have hlt1:l<w1.heap.size:=Nat.lt_of_lt_of_le hal.2.2 hIr.fr.size
    have ap1:∀b,O b∨b=l∨b=D→z4n gb b∧b<w1.heap.size:=fun b hb=>⟨z8zb hIr (ho.apart b hb).2.2 (ho.apart b hb).1,Nat.lt_of_lt_of_le (ho.apart b hb).2.2 hIr.fr.size⟩
    simp only[Exit.then]
    refine⟨_,run_beginRound hl1' (by rw[hrec];rfl),?_⟩
    obtain⟨w2,hw2⟩:∃w2,w2=w1.putObj l (.loop {rec .ready none with state:= .busy}):=⟨_,rfl⟩
    rw[←hw2]
    have hf2:Fr w1.heap.size (fun b=>b=l) w1 w2:=by rw[hw2];exact z6r _ _ _
    have hz2:w2.heap.size=w1.heap.size:=by rw[hw2];simp[World.putObj]
    have hl2:w2.heap[l]? =some (.loop {rec .ready none with state:= .busy}):=by rw[hw2];exact World.putObj_heap_same hlt1
    have hI1b:Inv K base gb w1 st1.getB:=z3zc ho.inv hIr
    have hl0:base.w0.heap.size≤l∨base.W l:= .inl (by omega)
    have hI2:Inv K base gb w2 st1.getB:=z2Y hI1b hf2 fun b hb=>by subst hb;exact⟨(ap1 _ (.inr (.inl rfl))).1,hl0⟩
    have hlo1:∀b lo,gb.ow b=some lo→b<w1.heap.size:=fun b lo hb=>(hIb1.owW b lo hb).2
    have hfa2:∀b,b=l→z4n gb b:=fun b hb=>by subst hb;exact(ap1 _ (.inr (.inl rfl))).1
    have hR2:Rel K ⟨w2,Wr gb,gb.S,base1.dl,base.mu0⟩ n st1 a1 w2:=by
     refine⟨gb,rebase hI2,fun s=>z1D hf2 hfa2 hlo1 (hSb s),fun s d hs=> ?_,hdb,hszb⟩
     refine z9b.mono ?_ d _ (hOb s d hs)
     refine(z5gb (dl:=base1.dl) hIb1).trans fun b i v hi' hc=> ?_
     have hb:b<w1.heap.size:=World.block_lt_of_cell? w1 ⟨b,i,none⟩ hc
     unfold z4f.S at hi'⊢
     split at hi'
     ·rename_i h
      have hbl:b≠l:=fun e=>by
       subst e
       have:gb.S b=0:=(ap1 _ (.inr (.inl rfl))).1.1
       simp only at hi';omega
      refine⟨?_,?_⟩
      ·rw[if_pos ⟨by rw[hz2];exact h.1,h.2⟩];exact hi'
      ·rw[World.cell?_of_block (w:=w1) (a:=⟨b,i,none⟩) (hf2.block b hb hbl)];exact hc
     ·omega
    refine wpIn_mono (hB l q' _ _ _ w2 _ hq1 hR2) ?_
    -- behind the body
    have fin:∀(jump:Option Code) (a3:Act) (w3:World) (base3:z4f) (st3:ASt),z3I K ⟨w2,Wr gb,gb.S,base1.dl,base.mu0⟩ base3→Rel K base3 n st3 a3 w3→z5E stH ks (fun s=>a.tmps.getD s undef) st3→
      ∃g3 w4,(Instr.endRound l jump).run K.P w3= .ok (.bool jump.isNone) w4∧z9nc K base stH ks a l D g1.S w W1 st3.box O g3 w4∧w4.heap[l]? =some (.loop (rec (if jump.isNone then .ready else .done) jump))∧
       z9d g1.S W1 g1.S w4∧(∀b,O b→w4.heap[b]? =A.heap[b]?)∧A.heap.size≤w4.heap.size∧w4.os=A.os∧w4.tape=A.tape∧w4.output=A.output:=fun jump a3 w3 base3 st3 hE3 hR3 hend=>by
     obtain⟨g3,hI3,hS3,hO3,hd3,hsz3⟩:=hR3
     have hIr3:=hE3.inv _ _ _ hI3
     have hB3:=z3zc hI2 hIr3
     have ap2:∀b,O b∨b=l∨b=D→z4n g3 b∧b<w3.heap.size∧w3.heap[b]? =w2.heap[b]? :=fun b hb=>by
      obtain⟨k1,k2⟩:=ap1 b hb
      rw[←hz2] at k2
      exact⟨z8zb hIr3 k2 k1,Nat.lt_of_lt_of_le k2 hIr3.fr.size,z8kb hIr3 k2 k1⟩
     have hl3:w3.heap[l]? =some (.loop {rec .ready none with state:= .busy}):=by rw[(ap2 l (.inr (.inl rfl))).2.2];exact hl2
     have hlt3:=(ap2 l (.inr (.inl rfl))).2.1
     obtain⟨w4,hw4⟩:∃w4,w4=w3.putObj l (.loop (rec (if jump.isNone then .ready else .done) jump)):=⟨_,rfl⟩
     have hrun:(Instr.endRound l jump).run K.P w3= .ok (.bool jump.isNone) w4:=by
      have:=run_endRound (P:=K.P) jump hl3
      rw[hw4,hrec] at*
      exact this
     have hf4:Fr w3.heap.size (fun b=>b=l) w3 w4:=by rw[hw4];exact z6r _ _ _
     have hfa4:∀b,b=l→z4n g3 b:=fun b hb=>by subst hb;exact(ap2 _ (.inr (.inl rfl))).1
     have hI4:Inv K base g3 w4 st3.getB:=z2Y hB3 hf4 fun b hb=>by subst hb;exact⟨(ap2 _ (.inr (.inl rfl))).1,hl0⟩
     have hlo3:∀b lo,g3.ow b=some lo→b<w3.heap.size:=fun b lo hb=>(hI3.owW b lo hb).2
     have blk:∀b,O b∨b=D→b≠l→w4.heap[b]? =A.heap[b]? :=fun b hb hne=>by
      have hb':O b∨b=l∨b=D:=hb.imp id .inr
      rw[hf4.block b (ap2 b hb').2.1 hne,(ap2 b hb').2.2,hf2.block b (ap1 b hb').2 hne,z8kb hIr (ho.apart b hb').2.2 (ho.apart b hb').1]
     have hOl:∀b,O b→b≠l:=fun b hb e=>ho.noL (e▸hb)
     have hDl:D≠l:=by omega
     have hkp:z9d g1.S W1 g3.S w4:=(((ho.kp.trans hIr.kp).trans (z3q hf2 hfa2)).trans hIr3.kp).trans (z3q hf4 hfa4)
     refine⟨g3,w4,hrun,⟨hI4,?_,fun b hb=> ?_,ho.noL,ho.noD,?_,hkp⟩,?_,fun b i v hi' hc=>⟨hi',(hkp b i v hi' hc).2⟩,fun b hb=>blk b (.inl hb) (hOl b hb),?_,?_,?_,?_⟩
     ·refine z8Tb (fun s hs=> ?_) (fun s d hs=>z9b.mono (z7Ba hI4) d _ (hOH s d hs))
      obtain⟨h1,h2⟩:=hend s hs
      have hv:=hO3 s _ h2
      simp only[z9b] at hv
      have:=z1D hf4 hfa4 hlo3 (hS3 s)
      rw[h1,hv] at this
      exact z87a this
     ·exact⟨(ap2 b hb).1,(ho.apart b hb).2.1,Nat.lt_of_lt_of_le (ap2 b hb).2.1 hf4.size⟩
     ·rw[blk D (.inr rfl) hDl];exact ho.blkD
     ·rw[hw4];exact World.putObj_heap_same hlt3
     ·exact Nat.le_trans hIr.fr.size (Nat.le_trans hf2.size (Nat.le_trans hIr3.fr.size hf4.size))
     ·rw[hf4.os,hIr3.fr.os,hf2.os,hIr.fr.os]
     ·rw[hf4.tape,hIr3.fr.tape,hf2.tape,hIr.fr.tape]
     ·rw[hf4.output,hIr3.fr.output,hf2.output,hIr.fr.output]
    intro e a3 w3 hl3
    cases e with
    |normal=>
     simp only[z2Mb] at hl3
     obtain⟨base3,hE3,st3,hR3,hq3⟩:=hl3
     simp only[z5yc] at hq3
     obtain⟨g3,w4,k1,k2,k3,k4,k5,k6,k7,k8,k9⟩:=fin none a3 w3 base3 st3 hE3 hR3 hq3.1
     exact⟨_,w4,k1,k4,k5,k6,k7,k8,k9,.inl ⟨rfl,st3.box,g3,hq3.2,k2,k3⟩⟩
    |exit id=>
     simp only[z2Mb] at hl3
     obtain⟨base3,hE3,st3,hR3,hq3⟩:=hl3
     simp only[z5yc] at hq3
     obtain⟨g3,w4,k1,k2,k3,k4,k5,k6,k7,k8,k9⟩:=fin (some (.exit id)) a3 w3 base3 st3 hE3 hR3 hq3.1
     exact⟨_,w4,k1,k4,k5,k6,k7,k8,k9,.inr ⟨rfl,st3.box,g3,.exit id,_,.inr ⟨id,rfl,rfl⟩,hq3.2,k2,k3⟩⟩
    |ret=>
     simp only[z2Mb] at hl3
     obtain⟨base3,hE3,st3,hR3,hq3⟩:=hl3
     simp only[z5yc] at hq3
     obtain⟨g3,w4,k1,k2,k3,k4,k5,k6,k7,k8,k9⟩:=fin (some .ret) a3 w3 base3 st3 hE3 hR3 hq3.1
     exact⟨_,w4,k1,k4,k5,k6,k7,k8,k9,.inr ⟨rfl,st3.box,g3,.ret,_,.inl ⟨rfl,rfl⟩,hq3.2,k2,k3⟩⟩
    |goto id=>exact hl3.elim
    |panic ch=>exact hl3.elim
    |outgrown=>exact hl3.elim
   |exit id=>simp only[z2Mb,z2l] at hl1;obtain⟨_,_,_,_,h⟩:=hl1;exact h.elim
   |ret=>simp only[z2Mb,z2l] at hl1;obtain⟨_,_,_,_,h⟩:=hl1;exact h.elim
   |goto id=>exact hl1.elim
   |panic ch=>exact hl1.elim
   |outgrown=>exact hl1.elim
 have hx0:z9d g.S w g1.S W1:=fun b i v hi hc=>hx1.keeps b i v (by rw[hg0];exact hi) hc
 have hyr1:z1ma K g1.S W1 lv B0 (epY st.getB lv y) vc.toList:=hyr.keep hx0 (fun i b hb=>(hB0ap i b hb).1) (by omega) (fun i b hb=>by
  have:=hB0lt i b hb
  rw[←hW1];exact(RowKit.Below.heap_alloc _ _ _ (by simp;omega)).trans (RowKit.Below.heap_alloc _ _ _ this))
 have hcall:=hV.2 g1.S W1 x (epY st.getB lv y) va.toList vc.toList B0 hI1.glob (z5a.mono hx0 x _ (z2b.pure x _ hpx hr1)) (by rw[←hlv];exact hyr1) hpre l J Jx N rounds
 rw[z6Ec] at hcall
 have fin:∀(bx:List (Nat×Option (List z0a))) (gB:Gh) (O:Nat→Prop) (B:World) (s:LoopState) (pe:Option Code),z9nc K base stH ks a l D g1.S w W1 bx O gB B→(∀b,(∃i,B0 i=some b)→O b)→(∀id∈ids,(lk bx id).join=none)→B.heap[l]? =some (.loop (rec s pe))→s≠ .busy→
   ∃w4,(Instr.endLoop l).run K.P B= .ok pe w4∧∃base',z3I K base base'∧Rel K base' n {org:=st.org,env:=z9t st ks,box:=bkB ids bx} {tmps:=a.tmps,defers:=[mark D]++a.defers} w4:=fun bx gB O B s pe ho hOO hnone hlB hs=>by
  have hrun:=run_endLoop (P:=K.P) hlB (by rw[hrec];exact hs)
  obtain⟨w4,hw4⟩:∃w4,w4=B.putObj l (.loop {rec s pe with state:= .exhausted}):=⟨_,rfl⟩
  rw[←hw4] at hrun
  have hal:=ho.apart l (.inr (.inl rfl))
  have haD:=ho.apart D (.inr (.inr rfl))
  have hf4:Fr B.heap.size (fun b=>b=l) B w4:=by rw[hw4];exact z6r _ _ _
  have hfa4:∀b,b=l→z4n gB b:=fun b hb=>by subst hb;exact hal.1
  have hI4:=z2Y ho.inv hf4 fun b hb=>by subst hb;exact⟨hal.1,hal.2.1⟩
  have hlo:∀b lo,gB.ow b=some lo→b<B.heap.size:=fun b lo hb=>(ho.inv.owW b lo hb).2
  have hpe:(rec s pe).pending=pe:=by rw[hrec];rfl
  rw[hpe] at hrun
  have hidl:∀id∈ids,∃i∈lv,y[i]? =some (.bp id 0):=fun id hid=>by rw[hids] at hid;exact z4bc.1 hid
  have hlt6:∀id∈ids,id<1000000:=fun id hid=>by
   obtain⟨i,hi,e⟩:=hidl id hid
   obtain⟨id',cs,e1,e2,_⟩:=hlive i hi
   rw[e] at e1;cases e1;exact e2
  have hB0id:∀id∈ids,∃i b,B0 i=some b∧g.mu id=some b:=fun id hid=>by
   obtain⟨i,hi,e⟩:=hidl id hid
   obtain⟨id',cs,e1,_,e3,_⟩:=hlive i hi
   rw[e] at e1;cases e1
   obtain⟨b,hb,_⟩:=hI.bxok id cs e3
   exact⟨i,b,by rw[hB0];simp only[lvB,if_pos hi,e];exact hb,hb⟩
  have hIE:=z1cd (g:=g) (o':=st.org) (e':=z9t st ks) hI4 hnone hlt6 hI.inj hI.old fun id hid=>by
   obtain⟨i,b,h1,h2⟩:=hB0id id hid
   have ha:=ho.apart b (.inl (hOO b ⟨i,h1⟩))
   exact⟨b,h2,ha.1,ha.2.1,Nat.lt_of_lt_of_le ha.2.2 hf4.size⟩
  have hmn:∀id∈ids,gB.mu id=none:=fun id hid=>hI4.nobx id (hnone id hid)
  have apE:∀b,z4n gB b→(∀i,B0 i≠some b)→z4n (z0ib g gB ids) b:=fun b hb hne=>⟨hb.1,fun id=>by
   simp only[z0ib]
   split
   ·rename_i hid
    intro hm
    obtain⟨i,b',h1,h2⟩:=hB0id id hid
    rw[hm] at h2;cases h2
    exact hne i h1
   ·exact hb.2.1 id,hb.2.2⟩
  have hkE:z9d g.S w (z0ib g gB ids).S w4:=fun b i v hi hc=>((hx0.trans ho.kp).trans (z3q hf4 hfa4)) b i v hi hc
  refine⟨w4,hrun,⟨w4,Wr (z0ib g gB ids),(z0ib g gB ids).S,[D].map mark++base.dl,base.mu0⟩,z1Fc hIE [D] (by simp) (fun x hx=> ?_),z0ib g gB ids,rebase hIE,?_,fun s d hs=>z9b.mono (z5gb hIE) d _ (hO s d hs),?_,hsz⟩
  ·simp only[List.mem_singleton] at hx
   subst hx
   refine⟨hfr1,Nat.lt_of_lt_of_le haD.2.2 hf4.size,apE _ haD.1 (fun i hi=> ?_),?_⟩
   ·have:=hB0lt i _ hi;omega
   ·rw[hf4.block _ haD.2.2 (by omega)];exact ho.blkD
  ·refine z8Tb (fun s hs=> ?_) (fun s d hs=>z9b.mono (z7Ba hIE) d _ (hO s d hs))
   rcases hksI s hs with h2|h2
   ·have hv:=ho.slots s
    rw[z4nc,if_pos hs] at hv
    rw[hstH,z1Lc h2] at hv
    exact z8Ac hmn (z87a (z1D hf4 hfa4 hlo hv))
   ·have hr:=Rep.dem none (hS s)
    refine Rep.mono (g:=g) (g':=z0ib g gB ids) hkE _ _ none none (fun id hid b hb=> ?_) (fun _ h=>by cases h) hr
    have hid':id∈z3d (st.get s):=by
     revert hid
     cases st.get s with
     |sl m _ _ _=>cases m<;>exact fun h=>h
     |otup=>exact fun h=>h
     |oagg=>intro h;simpa[Abs.dem,z3d,z6b,z2h] using h
     |_=>exact fun h=>h
    simp only[z0ib,if_pos (h2.1 id hid')]
    exact hb
  ·simp only[hd,List.map_cons,List.map_nil]
 refine⟨l,[mark D],W1,{target:= .fn (.func (K.nu f)) vc,args:=va++ #[.func (.yield l) #[] #[]]},W1,K.nu f,va++ #[.func (.yield l) #[] #[]]++vc,W1,?_,z6Dc hev (fun _=>rfl) l W1,fun _ _=>z36b _ _,?_,fun h=>by simp[z58b] at h,?_⟩
 ·have:=run_enterLoop_outer (P:=K.P) (w:=w) fn a.tmps qs p q
  rw[this,←hW1,hrec,hl,hD]
  rfl
 ·have:=z3Ia (P:=K.P) W1 hV.1 (va++ #[.func (.yield l) #[] #[]]++vc)
  simp only[invoke]
  exact this
 ·refine z41b.2 (hcall.mono fun e B hq=> ?_)
  obtain⟨v,rfl,O,hOO,hq⟩:=hq
  simp only[rangePost]
  rcases hq with⟨i,hel,bx,gB,hi,ho,hlB⟩|⟨bx,gB,e,jc,he,hq,ho,hlB⟩
  ·obtain⟨hq1,hq2⟩:=hIdone i bx hi hel
   obtain⟨w4,hrun,base',hE,hR'⟩:=fin bx gB O B .ready none ho hOO hq1 hlB (by simp)
   exact⟨none,w4,hrun,base',hE,_,hR',hq2⟩
  ·obtain⟨hq1,hq2⟩:=hq
   obtain⟨w4,hrun,base',hE,hR'⟩:=fin bx gB O B .done (some jc) ho hOO hq1 hlB (by simp)
   refine⟨some jc,w4,hrun,?_⟩
   rcases he with⟨rfl,rfl⟩|⟨id,rfl,rfl⟩
   ·exact wpIn_ret ⟨base',hE,_,hR',hq2⟩
   ·exact wpIn_exit ⟨base',hE,_,hR',hq2⟩
end
end Go.Abs
end

section
set_option linter.unusedVariables false
namespace Go.Abs
section
variable {K : Cx} {n : Nat}

theorem z5cc {keep:List Nat} {gs:List z0h} {xs:List z6a} {x:Code} {Q:z5c→ASt→Prop} {base:z4f} {st:ASt} {a:Act} {w:World} {r:Option Nat} {m:Nat} (hc:z5ra K n (.region keep gs xs) x=true)
  (hv:∀p∈z4a (.region keep gs xs),VB K p) (hcd:gs.all z0h.cold=true) (h:awp K.E (.region keep gs xs) Q st) (hR:Rel K base n st a w):x.wpIn (WF r) m K.P (z2Mb K base n Q) a w:=by
 simp only[z5ra] at hc
 simp only[awp] at h
 obtain⟨hok,hgs,hq⟩:=h
 split at hc
 ·rename_i id ops draw
  simp only[Bool.and_eq_true,Bool.or_eq_true,Bool.not_eq_true'] at hc
  obtain⟨hops,hdr⟩:=hc
  have hV':∀y∈xs,VOk K y.op:=fun y hy f hf=>hv f (by simp only[z4a,List.mem_flatMap];exact⟨y,hy,hf⟩)
  cases draw with
  |false=>
   refine wpIn_region ?_
   rw[List.range_eq_range']
   refine z96b (Q:=z2Mb K base n Q) hops hV' ops.size 0 st a w (by omega) hR (by simpa using hok) fun a' w' hR'=>⟨base,z3I.refl _ _,_,z5Lb gs hcd (z0La keep hR') (by simpa using hgs),by simpa using hq⟩
  |true=>
   rcases hdr with hdr|hdr
   ·cases hdr
   ·have hlen:=(z43a hops).1
    have hmap:(List.range ops.size).map (xs.getD · default)=xs:=by
     apply List.ext_getElem?
     intro i
     rw[List.getElem?_map]
     by_cases hi:i<ops.size
     ·rw[List.getElem?_range hi]
      have hi':i<xs.length:=by rw[←hlen];simpa using hi
      simp[List.getD,List.getElem?_eq_getElem hi']
     ·have hi':¬i<xs.length:=by rw[←hlen];simpa using hi
      rw[List.getElem?_eq_none (by simpa using hi),List.getElem?_eq_none (by omega)]
      rfl
    refine wpIn_region_any hdr.2 ?_
    have hR1:Rel K base n st a {w with drawn:=w.drawn+1}:=by
     obtain⟨g,hI,hS,hO⟩:=hR
     exact⟨g,z9Eb hI,z6tb.slots hS,hO⟩
    refine z1fc hops hV' hdr.1 ops.size (List.range ops.size) _ st a _ (by simp) (by simp) List.pairwise_lt_range (fun i=> ?_) hR1 (by rw[hmap];exact hok) (fun a' w' hR'=> ?_)
    ·simp only[List.mem_range]
     constructor
     ·intro hi
      refine⟨hi,?_⟩
      simp[Array.getD_eq_getD_getElem?,hi]
     ·exact fun h=>h.1
    ·rw[hmap] at hR'
     exact⟨base,z3I.refl _ _,_,z5Lb gs hcd (z0La keep hR') hgs,hq⟩
 ·cases hc

theorem z9Ba:∀(c:z1c) (x:Code) (r:Option Nat) (m:Nat) (Q:z5c→ASt→Prop) (base:z4f) (st:ASt) (a:Act) (w:World),z5ra K n c x=true→(∀p∈z4a c,VB K p)→(∀f∈z5Oa c,z8Ha K f (K.E.I f))→
  (z4ya c=true∨r=none∧z20a c=true)→z2Da c=true→awp K.E c Q st→Rel K base n st a w→x.wpIn (WF r) m K.P (z2Mb K base n Q) a w
 | .ghost g c,x,r,m,Q,base,st,a,w,hc,hv,hi,hf,hcd,h,hR=>by
  simp only[z5ra] at hc
  simp only[awp] at h
  exact z9Ba c x r m Q base _ a w hc hv hi (by simpa only[z4ya,z20a] using hf) (by simp only[z2Da,Bool.and_eq_true] at hcd;exact hcd.2) h.2 (z1La g (by simp only[z2Da,Bool.and_eq_true] at hcd;exact hcd.1) hR h.1)
 | .thawc b i id c,x,r,m,Q,base,st,a,w,hc,hv,hi,hf,hcd,h,hR=>by simp[z2Da] at hcd
 | .holdc s t c,x,r,m,Q,base,st,a,w,hc,hv,hi,hf,hcd,h,hR=>by
  simp only[z5ra] at hc
  simp only[awp] at h
  obtain⟨V,h1,h2⟩:=h
  obtain⟨V',h3,h4⟩:=z3gc s t hR h1
  exact z9Ba c x r m Q base _ a w hc hv hi (by simpa only[z4ya,z20a] using hf) (by simpa only[z2Da] using hcd) (h2 V' h3) h4
 | .skip,x,r,m,Q,base,st,a,w,hc,hv,hi,hf,hcd,h,hR=>by
  simp only[z5ra] at hc
  simp only[awp] at h
  split at hc
  ·exact wpIn_skip ⟨base,z3I.refl _ _,st,hR,h⟩
  ·exact wpIn_label ⟨base,z3I.refl _ _,st,hR,h⟩
  ·cases hc
 | .exit id,x,r,m,Q,base,st,a,w,hc,hv,hi,hf,hcd,h,hR=>by
  simp only[z5ra] at hc
  simp only[awp] at h
  split at hc
  ·simp only[beq_iff_eq] at hc
   subst hc
   exact wpIn_exit ⟨base,z3I.refl _ _,st,hR,h⟩
  ·cases hc
 | .ret,x,r,m,Q,base,st,a,w,hc,hv,hi,hf,hcd,h,hR=>by
  simp only[z5ra] at hc
  simp only[awp] at h
  split at hc
  ·exact wpIn_ret ⟨base,z3I.refl _ _,st,hR,h⟩
  ·cases hc
 | .bad,x,r,m,Q,base,st,a,w,hc,hv,hi,hf,hcd,h,hR=>by
  simp only[awp] at h
 | .alt p q,x,r,m,Q,base,st,a,w,hc,hv,hi,hf,hcd,h,hR=>by
  simp only[z5ra,Bool.and_eq_true] at hc
  simp only[awp] at h
  simp only[z4a,z5Oa,List.mem_append] at hv hi
  simp only[z4ya,z20a,Bool.and_eq_true] at hf
  simp only[z2Da,Bool.and_eq_true] at hcd
  rcases h with h|h
  ·exact z9Ba p x r m Q base st a w hc.1 (fun f hf=>hv f (.inl hf)) (fun f hf=>hi f (.inl hf)) (hf.imp (·.1) fun h=>⟨h.1,h.2.1⟩) hcd.1 h hR
  ·exact z9Ba q x r m Q base st a w hc.2 (fun f hf=>hv f (.inr hf)) (fun f hf=>hi f (.inr hf)) (hf.imp (·.2) fun h=>⟨h.1,h.2.2⟩) hcd.2 h hR
 | .region keep gs xs,x,r,m,Q,base,st,a,w,hc,hv,hi,hf,hcd,h,hR=>z5cc hc hv (by simpa only[z2Da] using hcd) h hR
 | .seq p q,x,r,m,Q,base,st,a,w,hc,hv,hi,hf,hcd,h,hR=>by
  simp only[z5ra] at hc
  simp only[awp] at h
  simp only[z4a,z5Oa,List.mem_append] at hv hi
  simp only[z4ya,z20a,Bool.and_eq_true] at hf
  simp only[z2Da,Bool.and_eq_true] at hcd
  split at hc
  ·rename_i y z
   simp only[Bool.and_eq_true] at hc
   refine wpIn_seq (wpIn_mono (z9Ba p y r m _ base st a w hc.1 (fun f hf=>hv f (.inl hf)) (fun f hf=>hi f (.inl hf)) (hf.imp (·.1) fun h=>⟨h.1,h.2.1⟩) hcd.1 h hR) ?_)
   intro e a' w' hl
   cases e<;>simp only[z2Mb] at hl<;>simp only[Exit.then]
   ·obtain⟨b',hE,st',hR',hq⟩:=hl
    exact wpIn_mono (z9Ba q z r m Q b' st' a' w' hc.2 (fun f hf=>hv f (.inr hf)) (fun f hf=>hi f (.inr hf)) (hf.imp (·.2) fun h=>⟨h.1,h.2.2⟩) hcd.2 hq hR') (z8gc hE)
   ·exact hl
   ·exact hl
  ·cases hc
 | .cond c p q,x,r,m,Q,base,st,a,w,hc,hv,hi,hf,hcd,h,hR=>by
  simp only[z5ra] at hc
  simp only[awp] at h
  simp only[z4a,z5Oa,List.mem_append] at hv hi
  simp only[z4ya,z20a,Bool.and_eq_true] at hf
  simp only[z2Da,Bool.and_eq_true] at hcd
  split at hc
  ·rename_i c' y z
   simp only[Bool.and_eq_true] at hc
   obtain⟨⟨hcc,hy⟩,hz⟩:=hc
   obtain⟨hb,ht,hf'⟩:=h
   have hR':=hR
   obtain⟨g,hI,hS,_⟩:=hR'
   obtain⟨_,hval⟩:=z3kb (z3qa hI hS hcc) hb
   refine wpIn_cond_split hval (fun e=> ?_) (fun e=> ?_)
   ·exact z9Ba p y r m Q base st a w hy (fun f hf=>hv f (.inl hf)) (fun f hf=>hi f (.inl hf)) (hf.imp (·.1) fun h=>⟨h.1,h.2.1⟩) hcd.1 (ht e) hR
   ·exact z9Ba q z r m Q base st a w hz (fun f hf=>hv f (.inr hf)) (fun f hf=>hi f (.inr hf)) (hf.imp (·.2) fun h=>⟨h.1,h.2.2⟩) hcd.2 (hf' e) hR
  ·cases hc
 | .scope b,x,r,m,Q,base,st,a,w,hc,hv,hi,hf,hcd,h,hR=>by
  simp only[z5ra] at hc
  simp only[awp] at h
  simp only[z4ya,z20a] at hf
  simp only[z2Da] at hcd
  split at hc
  ·rename_i p
   refine z4Zb (wpIn_mono (z9Ba b p r m Q base st a w hc hv hi hf hcd h hR) ?_)
   intro e a' w' hl
   cases e<;>simp only[z2Mb] at hl<;>exact hl
  ·cases hc
 | .block id b,x,r,m,Q,base,st,a,w,hc,hv,hi,hf,hcd,h,hR=>by
  simp only[z5ra] at hc
  simp only[awp] at h
  simp only[z4ya,z20a] at hf
  simp only[z2Da] at hcd
  split at hc
  ·rename_i id' p
   simp only[Bool.and_eq_true,beq_iff_eq] at hc
   obtain⟨rfl,hp⟩:=hc
   refine wpIn_block (wpIn_mono (z9Ba b p r m _ base st a w hp hv hi hf hcd h hR) ?_)
   intro e a' w' hl
   cases e<;>simp only[z2Mb] at hl<;>simp only[Exit.inBlock]
   ·exact hl
   ·rename_i id'
    obtain⟨b',hE,st',hR',hq⟩:=hl
    simp only[z8v] at hq
    split
    ·rename_i he
     rw[if_pos he] at hq
     exact⟨b',hE,st',hR',hq⟩
    ·rename_i he
     rw[if_neg he] at hq
     exact⟨b',hE,st',hR',hq⟩
   ·exact hl
  ·cases hc
 | .loop b,x,r,m,Q,base,st,a,w,hc,hv,hi,hf,hcd,h,hR=>by
  simp only[z5ra] at hc
  simp only[awp] at h
  simp only[z4ya,z20a] at hf
  simp only[z2Da] at hcd
  split at hc
  ·rename_i p
   obtain⟨I,⟨k,hm⟩,hround⟩:=h
   refine z4lb (fun k a w=>∃b',z3I K base b'∧∃st,Rel K b' n st a w∧I k st) ⟨base,z3I.refl _ _,st,hR,hm⟩ fun k a w hj=> ?_
   obtain⟨b',hE,st',hR',hI⟩:=hj
   refine wpIn_mono (z9Ba b p r m _ b' st' a w hc hv hi hf hcd (hround _ st' hI) hR') ?_
   intro e a' w' hl
   have hl:=z8gc hE e a' w' hl
   cases e<;>simp only[z2Mb] at hl<;>simp only[Exit.then]
   ·obtain⟨b2,hE2,st2,hR2,m',hlt,hI'⟩:=hl
    exact⟨m',hlt,b2,hE2,st2,hR2,hI'⟩
   ·exact hl
   ·exact hl
  ·cases hc
 | .range f t ks ps as bd,x,r,m,Q,base,st,a,w,hc,hv,hi,hf,hcd,h,hR=>by
  simp only[z5ra] at hc
  simp only[z4a,z5Oa,List.mem_append,List.mem_cons] at hv hi
  simp only[z4ya,z20a,Bool.false_eq_true,false_or,Bool.and_eq_true] at hf
  simp only[z2Da,Bool.and_eq_true] at hcd
  obtain⟨rfl,hfa,hfb⟩:=hf
  split at hc
  ·rename_i G qs p q
   simp only[Bool.and_eq_true,beq_iff_eq,decide_eq_true_eq,List.all_eq_true] at hc
   obtain⟨⟨⟨⟨⟨hg,hps⟩,hlt⟩,hnd⟩,hca⟩,hcb⟩:=hc
   exact z9rc hg hps hlt hnd (hi f (.inl rfl))
    (fun l m' base st a w Q h hR=>z9Ba as p (some l) m' Q base st a w hca (fun p hp=>hv p (.inl hp)) (fun p hp=>hi p (.inr (.inl hp))) (.inl hfa) hcd.1 h hR)
    (fun l m' base st a w Q h hR=>z9Ba bd q (some l) m' Q base st a w hcb (fun p hp=>hv p (.inr hp)) (fun p hp=>hi p (.inr (.inr hp))) (.inl hfb) hcd.2 h hR) h hR
  ·cases hc

theorem z1j {F:Fence} {q:Nat} {P:Program} {fn:Func} {tmps:Array Value} {R:Ending→World→Prop}:∀(ms:List Nat) (w:World),(∀D∈ms,w.heap[D]? =some (.deferred (some [])))→ms.Nodup→
  (∀w',Fr w.heap.size (fun b=>b∈ms) w w'→∃v,(results fn tmps).run P w'= .ok v w'∧R (.returned v) w')→LeavesInM F q P fn tmps R (ms.map mark) .returning w
 |[],w,_,_,h=>h w (Fr.refl _ _ _)
 |D::ms,w,hD,hn,h=>by
  rw[List.nodup_cons] at hn
  refine⟨by simp,.inl ⟨D,w.putObj D (.deferred none),rfl,run_takeDeferred (hD D (by simp)),?_⟩⟩
  have hf:=z6r w D (.deferred none)
  have hlt:∀x∈ms,x<w.heap.size:=fun x hx=>by
   have:=hD x (by simp[hx])
   exact(Array.getElem?_eq_some_iff.1 this).1
  refine z1j ms _ (fun x hx=> ?_) hn.2 (fun w' hw'=>h w' ?_)
  ·rw[hf.block x (hlt x hx) (fun e=>hn.1 (e▸hx))]
   exact hD x (by simp[hx])
  ·exact(hf.mono (Nat.le_refl _) (fun k _ e=>by subst e;simp)).trans (hw'.mono (by simp[World.putObj]) (fun k _ e=>by simp[e]))

theorem z9Ec {base base':z4f} {st:ASt} {a:Act} {w:World} {q:Nat} {fn:Func} {R:Ending→World→Prop} (hE:z3I K base base') (hdl:base.dl=[]) (hR:Rel K base' n st a w)
  (h:∀g w',Inv K base g w' st.getB→z2v K g w' st.get a→z65 K base' st a→∃v,(results fn a.tmps).run K.P w'= .ok v w'∧R (.returned v) w'):LeavesInM (WF none) q K.P fn a.tmps R a.defers .returning w:=by
 obtain⟨g,hI,hS,hO,hd,_⟩:=hR
 obtain⟨ms,e,hn,h1,h2⟩:=hE.marks
 have h3:=h2 g w _ hI
 rw[hd,e,hdl,List.append_nil]
 refine z1j ms w (fun D hD=>(h3 D hD).2.2) hn fun w' hw'=>h g w' ?_ ?_ hO
 ·exact z2Y (hE.inv _ _ _ hI) hw' fun b hb=>⟨(h3 b hb).1,.inl (h1 b hb).1⟩
 ·exact fun s=>z1D hw' (fun b hb=>(h3 b hb).1) (fun b l hb=>(hI.owW b l hb).2) (hS s)
end
end Go.Abs
end

section
set_option linter.unusedVariables false
namespace Go.Abs
section
variable {K : Cx} {base : z4f} {n : Nat} {st : ASt} {a : Act} {w : World}

theorem z5Dc {st:ASt} (h:∀p∈st.env,z5b p.2=false) (s:Nat):z5b (st.get s)=false:=by
 unfold ASt.get
 cases hl:lk st.env s with
 |some d=>exact h _ (z15a hl)
 |none=>exact z9Ua _
theorem z0Pb {st:ASt} {id:Nat} {cs:List z0a} (h:st.getB id=some cs):(id,some cs)∈st.box:=by
 simp only[ASt.getB] at h
 cases hl:lk st.box id with
 |none=>rw[hl] at h;cases h
 |some o=>rw[hl] at h;simp only[Option.join_some] at h;subst h;exact z15a hl
theorem z6rd {g:Gh} {bx:Nat→Option (List z0a)} (hI:Inv K base g w bx) {id b:Nat} (h:g.mu id=some b):g.S b=0:=by
 cases hb:bx id with
 |none=>rw[hI.nobx id hb] at h;cases h
 |some cs=>
  obtain⟨b',h1,h2,_⟩:=hI.bxok id cs hb
  rw[h] at h1;cases h1;exact h2
theorem z9Dc (ks:List Nat) (hR:Rel K base n st a w) (hok:z9i (.rebase ks) st):∃base',z3I K base base'∧z4Qb K base'∧Rel K base' n (z1b (.rebase ks) st) a w:=by
 obtain⟨g,hI,hS,hO,hd,hn⟩:=hR
 obtain⟨hk,he,hbx⟩:=hok
 let g':Gh:={g with ow:=fun _=>none}
 have top:∀{d:z0a} {v:Value} {l l':Option Loc},z5b d=false→Rep K.toCon g w l d v→Rep K.toCon g' w l' d v:=fun {d v l l'} ho hr=>
  z80a l' ho (Rep.mono (g:=g) (g':=g') (z9d.refl _ _) d v none none (fun _ _ _ h=>h) (fun _ h=>by cases h) (z87a hr))
 have hI':Inv K base g' w st.getB:=by
  refine⟨hI.fr,hI.sS,hI.inj,fun id cs hc=> ?_,hI.nobx,fun id b hb=> ?_,fun b l hb=>(by cases hb),hI.glob,hI.kp,fun id b cs ho hb hc hd'=> ?_,hI.old⟩
  ·obtain⟨b,k1,k2,k3⟩:=hI.bxok id cs hc
   refine⟨b,k1,k2,fun i d hi=> ?_⟩
   obtain⟨⟨x,hx,hr⟩,hz⟩:=k3 i d hi
   exact⟨⟨x,hx,top ((hbx _ (z0Pb hc)).2 cs rfl d (z9va hi)) hr⟩,hz⟩
  ·obtain⟨k1,k2,_⟩:=hI.muW id b hb
   exact⟨k1,k2,rfl⟩
  ·have:=(hbx _ (z0Pb hc)).1
   simp only at this
   omega
 have hW:∀b,Wr g' b→g.S b=0:=fun b hb=>by
  rcases hb with⟨id,h⟩|h
  ·exact z6rd hI h
  ·exact absurd rfl h
 have hkS:z9d g.S w (z4f.S ⟨w,Wr g',g'.S,base.dl,base.mu0⟩) w:=fun b i x hi hc=>by
  refine⟨?_,hc⟩
  unfold z4f.S
  rw[if_pos ⟨World.block_lt_of_cell? w ⟨b,i,none⟩ hc,fun h=>by have:=hW b h;omega⟩]
  exact hi
 have hB:=rebase (dl:=base.dl) hI'
 refine⟨⟨w,Wr g',g'.S,base.dl,base.mu0⟩,⟨fun g2 w2 bx h=>z3zc hI' h,z5gb hI',hI'.fr,fun b hb hlt=>(z8sb hI' hb).resolve_left (by omega),[],by simp,List.nodup_nil,by simp,fun _ _ _ _ D hD=>by cases hD⟩,⟨hW,hI.glob⟩,g',hB,fun s=> ?_,fun s d hs=> ?_,hd,hn⟩
 ·have hg:(z1b (.rebase ks) st).get s=if s∈ks then dem (st.get s) else st.get s:=by
   show(match lk (st.env.filter fun p=> !ks.contains p.1) s with|some d=>d|none=>dem ((lk ((ks.map fun s=>(s,st.get s))++st.org) s).getD .undef))=_
   rw[z2za (fun k=> !ks.contains k)]
   by_cases h:s∈ks
   ·have:lk ((ks.map fun s=>(s,st.get s))++st.org) s=some (st.get s):=by
     rw[z4d,z6sa,if_pos h];rfl
    simp[h,this]
   ·have:lk ((ks.map fun s=>(s,st.get s))++st.org) s=lk st.org s:=by
     rw[z4d,z6sa,if_neg h];rfl
    rw[if_pos (by simpa using h),this,if_neg h];rfl
  rw[hg]
  split
  ·exact top (z9Ua _) (Rep.dem none (hS s))
  ·exact top (z5Dc he s) (hS s)
 ·have hl:lk (z1b (.rebase ks) st).org s=if s∈ks then some (st.get s) else lk st.org s:=by
   show lk ((ks.map fun s=>(s,st.get s))++st.org) s=_
   rw[z4d,z6sa]
   by_cases h:s∈ks
   ·rw[if_pos h,if_pos h];rfl
   ·rw[if_neg h,if_neg h];rfl
  rw[hl] at hs
  split at hs
  ·rename_i h
   cases hs
   exact z9b.mono hkS _ _ (Rep.pure _ _ _ (hk s h).1 (hS s))
  ·exact z9b.mono (z5gb hI') d _ (hO s d hs)

structure z7Qd (K:Cx) (base:z4f) (g g':Gh) (w:World) (id b:Nat) (L:Loc):Prop where
 keeps:z9d g.S w g'.S w
 rep:∀{d:z0a} {v:Value} {l:Loc},id∉z3d d→Rep K.toCon g w (some l) d v→Rep K.toCon g' w (some l) d v
theorem z1bc {g:Gh} {bx:Nat→Option (List z0a)} (hI:Inv K base g w bx) {id:Nat} (h5:500000≤id) (h6:id<1000000) {e n c:Nat} {l:List z0a} (hl:bx id=some l) (hnc:n≤c) (hll:l.length=c*e) (hmf:z7a (l.take (n*e))=true) (L:Loc) {v:Value} {l0:Option Loc}
  (hrv:Rep K.toCon g w l0 (.bv id e 0 n c) v):∃(b:Nat) (g':Gh),g.mu id=some b∧g'={S:=fun x=>if x=b then n*e else g.S x,ow:=fun x=>if x=b then some L else g.ow x,mu:=fun j=>if j=id then none else g.mu j}∧z7Qd K base g g' w id b L∧
   Rep K.toCon g' w (some L) (.sl (.own e) none n (l.take (n*e))) v∧
   ∀bx':Nat→Option (List z0a),(bx' id=none)→(∀j,1000000≤j→bx' j=bx j)→(∀j,j≠id→(bx' j).isSome=(bx j).isSome)→
    (∀j cs,bx' j=some cs→∃b',g.mu j=some b'∧g.S b'=0∧∀i d,cs[i]? =some d→(∃x,w.cell? ⟨b',i,none⟩=some x∧Rep K.toCon g' w (some (.cell j i)) d x)∧w.frozen? ⟨b',i,none⟩=false)→Inv K base g' w bx':=by
 obtain⟨b,k1,k2,k3⟩:=hI.bxok id l hl
 simp only[Rep] at hrv
 obtain⟨b',cap,o,hb',hv,hncap,hccap,ho,hex⟩:=hrv
 rw[k1] at hb';cases hb'
 have hcap:=hex h5
 subst hcap
 have howb:=(hI.muW id b k1).2.2
 obtain⟨hwb,hbsz,_⟩:=hI.muW id b k1
 let g':Gh:={S:=fun x=>if x=b then n*e else g.S x,ow:=fun x=>if x=b then some L else g.ow x,mu:=fun j=>if j=id then none else g.mu j}
 have hk:z9d g.S w g'.S w:=fun b'' i x hi hc=>by
  refine⟨?_,hc⟩
  have:b''≠b:=fun e=>by subst e;omega
  simp only[g',if_neg this];exact hi
 have rep:∀{d:z0a} {v:Value} {l:Loc},id∉z3d d→Rep K.toCon g w (some l) d v→Rep K.toCon g' w (some l) d v:=fun {d v l} hr h=>
  Rep.mono (g:=g) (g':=g') hk d v (some l) (some l) (fun j hj b'' hb''=>by have:j≠id:=fun e=>hr (e▸hj);simp only[g',if_neg this];exact hb'') (fun m hm=>⟨m,hm,fun b'' hb''=>by
   have:b''≠b:=fun e=>by rw[e,howb] at hb'';cases hb''
   exact⟨by simp only[g',if_neg this];exact hb'',by simp only[g',if_neg this],fun _ _ h=>h⟩⟩) h
 have hle:n*e≤c*e:=Nat.mul_le_mul_right _ hnc
 have hcells:z4b K.toCon g'.S w (l.take (n*e)) b 0:=z4b.mk fun i d hi=>by
  have hi':=hi
  rw[List.getElem?_take] at hi'
  split at hi'
  ·rename_i hlt
   obtain⟨⟨x,hx,hr⟩,_⟩:=k3 i d hi'
   rw[Nat.zero_add]
   refine⟨by simp only[g',if_true];exact hlt,x,hx,?_⟩
   have hmd:z6c d=true:=z1Ob hmf (z9va hi)
   exact Rep.pure (g:=g') d x none (z7Ub d hmd) (z2Va (g':=g') (w':=w) d x _ none hmd hr)
  ·cases hi'
 have hth:w.there b 0 (c*e):=fun j hj=>by
  obtain⟨⟨x,hx,_⟩,hz⟩:=k3 j _ (List.getElem?_eq_getElem (by omega))
  rw[Nat.zero_add]
  exact⟨by rw[hx];rfl,hz⟩
 refine⟨b,g',k1,rfl,⟨hk,rep⟩,?_,fun bx' h1 h2 h3 h4=> ?_⟩
 ·simp only[Rep]
  by_cases hc0:n=0∧c=0
  ·obtain⟨rfl,rfl⟩:=hc0
   have hnil:l.take (0*e)=[]:=by rw[Nat.zero_mul];rfl
   rw[hnil]
   subst hv
   exact⟨by simp only[z9b];exact .inr ⟨_,rfl,trivial,trivial,by simp⟩,fun l' _=> .inl (.inr ⟨⟨_,rfl⟩,rfl⟩)⟩
  ·have ho0:o=0:=ho.resolve_right hc0
   subst ho0
   refine⟨by simp only[z9b];exact .inl ⟨b,0,c,hv,hncap,hcells,by simp,by simp⟩,fun l' hl'=> .inr ?_⟩
   cases hl'
   exact⟨b,c,hv,hncap,by rw[List.length_take,hll,Nat.min_eq_left hle],by simp only[g',if_true],by simp only[g',if_true],hth⟩
 ·refine⟨hI.fr,fun b'' hb'' hw=> ?_,fun i j x hi hj=> ?_,fun j cs hj=> ?_,fun j hj=> ?_,fun j x hx=> ?_,fun x L' hx=> ?_,fun m hm=>z4b.mono hk _ _ _ (hI.glob m hm),hI.kp.trans hk,fun j x cs ho' hb' hc hd=> ?_,fun j x h1 h2 hx=>by
  simp only[g'] at hx
  split at hx
  ·cases hx
  ·exact hI.old j x h1 h2 hx⟩
  ·have:b''≠b:=fun e=>by
    subst e
    rcases hwb with h|h
    ·omega
    ·exact hw h
   simp only[g',if_neg this]
   exact hI.sS b'' hb'' hw
  ·simp only[g'] at hi hj
   split at hi
   ·cases hi
   ·split at hj
    ·cases hj
    ·exact hI.inj i j x hi hj
  ·obtain⟨b2,q1,q2,q3⟩:=h4 j cs hj
   have hjid:j≠id:=fun e=>by rw[e,h1] at hj;cases hj
   have hbb:b2≠b:=fun e=>hjid (hI.inj _ _ _ (e▸q1) k1)
   exact⟨b2,by simp only[g',if_neg hjid];exact q1,by simp only[g',if_neg hbb];exact q2,q3⟩
  ·by_cases hjid:j=id
   ·simp only[g',if_pos hjid]
   ·simp only[g',if_neg hjid]
    refine hI.nobx j ?_
    have:=h3 j hjid
    rw[hj] at this
    cases hbj:bx j with
    |none=>rfl
    |some _=>rw[hbj] at this;cases this
  ·simp only[g'] at hx
   split at hx
   ·cases hx
   ·rename_i hjid
    obtain⟨q1,q2,q3⟩:=hI.muW j x hx
    have:x≠b:=fun e=>hjid (hI.inj _ _ _ (e▸hx) k1)
    exact⟨q1,q2,by simp only[g',if_neg this];exact q3⟩
  ·simp only[g'] at hx
   split at hx
   ·rename_i he;subst he;exact⟨hwb,hbsz⟩
   ·exact hI.owW x L' hx
  ·have hjid:j≠id:=fun e=>by omega
   rw[h2 j ho'] at hc
   simp only[g',if_neg hjid] at hb'
   refine z8t.keep (hI.obok j x cs ho' hb' hc hd) rfl fun q hq=>⟨?_,rfl⟩
   have hqb:q≠b:=fun e=>by rw[e,howb] at hq;cases hq
   simp only[g',if_neg hqb];exact hq

theorem z6Qc {id:Nat} {cs:Option (List z0a)} {d:z0a} (h:z65d id cs d):∃e n c l,d= .bv id e 0 n c∧n≤c∧cs=some l∧l.length=c*e∧z7a (l.take (n*e))=true:=by
 unfold z65d at h
 split at h
 ·obtain⟨rfl,rfl,h1,l,h2,h3,h4⟩:=h
  exact⟨_,_,_,l,rfl,h1,h2,h3,h4⟩
 ·exact h.elim
theorem z2Rc (b0 i0 id:Nat) (hR:Rel K base n st a w) (hok:z9i (.coolB b0 i0 id) st):Rel K base n (z1b (.coolB b0 i0 id) st) a w:=by
 obtain⟨g,hI,hS,hO,h⟩:=hR
 obtain⟨h5,h6,hb5,hmid,henv,hbox⟩:=hok
 cases hgb:st.getB b0 with
 |none=>rw[hgb] at hmid;exact hmid.elim
 |some bs=>
 rw[hgb] at hmid
 obtain⟨hilt,hbv,hnr⟩:=hmid
 obtain⟨e,m,c,l,hget,hnc,hl,hll,hmf⟩:=z6Qc hbv
 have hgi:bs[i0]? =some (.bv id e 0 m c):=by
  rw[List.getElem?_eq_getElem hilt]
  rw[List.getD_eq_getElem?_getD,List.getElem?_eq_getElem hilt] at hget
  exact congrArg some hget
 obtain⟨bb,kb1,kb2,kb3⟩:=hI.bxok b0 bs hgb
 obtain⟨⟨v,hvc,hrv⟩,hfzv⟩:=kb3 i0 _ hgi
 obtain⟨b,g',hmu,hg',⟨hk,rep⟩,hown,mkI⟩:=z1bc hI h5 h6 hl hnc hll hmf (.cell b0 i0) hrv
 have hrun:z1b (.coolB b0 i0 id) st={st with box:=(b0,some (bs.set i0 (.sl (.own e) none m (l.take (m*e)))))::(id,none)::st.box}:=by
  simp only[z1b,hgb,hget,hl,Option.getD_some]
 rw[hrun]
 have hne:b0≠id:=by omega
 have hgetB:∀j,({st with box:=(b0,some (bs.set i0 (.sl (.own e) none m (l.take (m*e)))))::(id,none)::st.box}:ASt).getB j=if j=b0 then some (bs.set i0 (.sl (.own e) none m (l.take (m*e)))) else if j=id then none else st.getB j:=fun j=>by
  simp only[ASt.getB,lk]
  split
  ·rfl
  ·split<;>rfl
 have hI':=mkI ({st with box:=(b0,some (bs.set i0 (.sl (.own e) none m (l.take (m*e)))))::(id,none)::st.box}:ASt).getB (by rw[hgetB,if_neg (by omega),if_pos rfl]) (fun j hj=>by rw[hgetB,if_neg (by omega),if_neg (by omega)])
  (fun j hj=>by
   rw[hgetB]
   by_cases hjb:j=b0
   ·subst hjb;rw[if_pos rfl,hgb];rfl
   ·rw[if_neg hjb,if_neg hj]) (fun j cs hj=>by
   rw[hgetB] at hj
   split at hj
   ·rename_i hjb
    subst hjb
    cases hj
    refine⟨bb,kb1,kb2,fun i d hi=> ?_⟩
    have hi0:=hi
    rw[List.getElem?_set] at hi
    split at hi
    ·rename_i he
     subst he
     first|(rw[if_pos hilt] at hi;cases hi)|cases hi
     exact⟨⟨v,hvc,hown⟩,hfzv⟩
    ·rename_i hne'
     obtain⟨⟨y,h4,h5'⟩,h6'⟩:=kb3 i d hi
     refine⟨⟨y,h4,rep (fun hr=>hnr (z34a (List.mem_of_getElem? (i:=i) (by rw[List.getElem?_set,if_neg hne'];exact hi)) hr)) h5'⟩,h6'⟩
   ·rename_i hjb
    split at hj
    ·cases hj
    ·rename_i hjid
     obtain⟨b2,q1,q2,q3⟩:=hI.bxok j cs hj
     refine⟨b2,q1,q2,fun i d hi=> ?_⟩
     obtain⟨⟨y,h4,h5'⟩,h6'⟩:=q3 i d hi
     refine⟨⟨y,h4,rep (fun hr=> ?_) h5'⟩,h6'⟩
     rcases hbox _ (z0Pb hj) cs rfl with h|h|h
     ·exact hjid h
     ·exact hjb h
     ·exact h (z34a (z9va hi) hr))
 refine⟨g',hI',fun t=> ?_,hO,h⟩
 have hgt:({st with box:=(b0,some (bs.set i0 (.sl (.own e) none m (l.take (m*e)))))::(id,none)::st.box}:ASt).get t=st.get t:=rfl
 rw[hgt]
 cases hlt:lk st.env t with
 |some d=>
  have h1:=hS t
  have hd:st.get t=d:=by unfold ASt.get;rw[hlt]
  rw[hd] at h1⊢
  exact rep (henv _ (z15a hlt)) h1
 |none=>
  have hd:st.get t=dem ((lk st.org t).getD .undef):=by unfold ASt.get;rw[hlt]
  rw[hd]
  cases hs:lk st.org t with
  |none=>simp[Abs.dem,Rep]
  |some d=>exact z9b.dem (g:=g') _ (z9b.mono (z7Ba hI') d _ (hO t d hs))
theorem z49c (s id:Nat) (hR:Rel K base n st a w) (hok:z9i (.cool s id) st):Rel K base n (z1b (.cool s id) st) a w:=by
 obtain⟨g,hI,hS,hO,h⟩:=hR
 obtain⟨h5,h6,hbv,henv,hbox⟩:=hok
 obtain⟨e,m,c,l,hget,hnc,hl,hll,hmf⟩:=z6Qc hbv
 have hrv:=hS s
 rw[hget] at hrv
 obtain⟨b,g',hmu,hg',⟨hk,rep⟩,hown,mkI⟩:=z1bc hI h5 h6 hl hnc hll hmf (.slot s) hrv
 have hrun:z1b (.cool s id) st={st with env:=(s,.sl (.own e) none m (l.take (m*e)))::st.env,box:=(id,none)::st.box}:=by
  simp only[z1b,hget,hl,Option.getD_some]
 rw[hrun]
 have hgetB:∀j,({st with env:=(s,z0a.sl (.own e) none m (l.take (m*e)))::st.env,box:=(id,none)::st.box}:ASt).getB j=if j=id then none else st.getB j:=fun j=>by
  simp only[ASt.getB,lk]
  split<;>rfl
 have hI':=mkI ({st with env:=(s,z0a.sl (.own e) none m (l.take (m*e)))::st.env,box:=(id,none)::st.box}:ASt).getB (by rw[hgetB,if_pos rfl]) (fun j hj=>by rw[hgetB,if_neg (by omega)])
  (fun j hj=>by rw[hgetB,if_neg hj]) (fun j cs hj=>by
   rw[hgetB] at hj
   split at hj
   ·cases hj
   ·rename_i hjid
    obtain⟨b2,q1,q2,q3⟩:=hI.bxok j cs hj
    refine⟨b2,q1,q2,fun i d hi=> ?_⟩
    obtain⟨⟨y,h4,h5'⟩,h6'⟩:=q3 i d hi
    refine⟨⟨y,h4,rep (fun hr=> ?_) h5'⟩,h6'⟩
    rcases hbox _ (z0Pb hj) cs rfl with h|h
    ·exact hjid h
    ·exact h (z34a (z9va hi) hr))
 refine⟨g',hI',fun t=> ?_,hO,h⟩
 by_cases ht:t=s
 ·subst ht
  have hgt:({st with env:=(t,z0a.sl (.own e) none m (l.take (m*e)))::st.env,box:=(id,none)::st.box}:ASt).get t= .sl (.own e) none m (l.take (m*e)):=by
   simp[ASt.get,lk]
  rw[hgt]
  exact hown
 ·have hgt:({st with env:=(s,z0a.sl (.own e) none m (l.take (m*e)))::st.env,box:=(id,none)::st.box}:ASt).get t=st.get t:=by
   simp only[ASt.get,lk,if_neg ht]
  rw[hgt]
  cases hlt:lk st.env t with
  |some d=>
   have h1:=hS t
   have hd:st.get t=d:=by unfold ASt.get;rw[hlt]
   rw[hd] at h1⊢
   exact rep ((henv _ (z15a hlt)).resolve_left ht) h1
  |none=>
   have hd:st.get t=dem ((lk st.org t).getD .undef):=by unfold ASt.get;rw[hlt]
   rw[hd]
   cases hs:lk st.org t with
   |none=>simp[Abs.dem,Rep]
   |some d=>exact z9b.dem (g:=g') _ (z9b.mono (z7Ba hI') d _ (hO t d hs))
theorem z51b (gh:z0h) (hF:z4Qb K base) (hR:Rel K base n st a w) (hok:z9i gh st):∃base',z3I K base base'∧z4Qb K base'∧Rel K base' n (z1b gh st) a w:=by
 cases gh with
 |thaw s id=>exact⟨base,z3I.refl _ _,hF,z2ad s id hF hR hok⟩
 |thawB b i id=>exact⟨base,z3I.refl _ _,hF,z9Nc b i id hF hR hok⟩
 |rebase ks=>exact z9Dc ks hR hok
 |cool s id=>exact⟨base,z3I.refl _ _,hF,z49c s id hR hok⟩
 |coolB b i id=>exact⟨base,z3I.refl _ _,hF,z2Rc b i id hR hok⟩
 |unorg s=>exact⟨base,z3I.refl _ _,hF,z1La _ rfl hR hok⟩
 |hideB b i=>exact⟨base,z3I.refl _ _,hF,z1La _ rfl hR hok⟩
 |reB b i o=>exact⟨base,z3I.refl _ _,hF,z1La _ rfl hR hok⟩
 |keep l=>exact⟨base,z3I.refl _ _,hF,z1La _ rfl hR hok⟩
 |drop ids=>exact⟨base,z3I.refl _ _,hF,z1La _ rfl hR hok⟩
 |freeze ids=>exact⟨base,z3I.refl _ _,hF,z1La _ rfl hR hok⟩
 |norm ids=>exact⟨base,z3I.refl _ _,hF,z1La _ rfl hR hok⟩
theorem z3qc:∀(gs:List z0h) {base:z4f} {st:ASt},z4Qb K base→Rel K base n st a w→z6S gs st→∃base',z3I K base base'∧z4Qb K base'∧Rel K base' n (z6q gs st) a w
 |[],base,_,hF,hR,_=>⟨base,z3I.refl _ _,hF,hR⟩
 |g::gs,base,st,hF,hR,hok=>by
  obtain⟨b1,e1,f1,r1⟩:=z51b g hF hR hok.1
  obtain⟨b2,e2,f2,r2⟩:=z3qc gs f1 r1 hok.2
  exact⟨b2,e1.trans e2,f2,r2⟩
end
end Go.Abs
end

section
set_option linter.unusedVariables false
namespace Go.Abs
def z4Jb (K:Cx) (Cd:Prop) (base:z4f) (n:Nat) (Q:z5c→ASt→Prop):Exit→Act→World→Prop
 | .normal,a,w=>∃base',(z3I K base base'∧(z4Qb K base→z4Qb K base')∧(Cd→base'=base))∧∃st,Rel K base' n st a w∧Q .normal st
 | .exit id,a,w=>∃base',(z3I K base base'∧(z4Qb K base→z4Qb K base')∧(Cd→base'=base))∧∃st,Rel K base' n st a w∧Q (.exit id) st
 | .ret,a,w=>∃base',(z3I K base base'∧(z4Qb K base→z4Qb K base')∧(Cd→base'=base))∧∃st,Rel K base' n st a w∧Q .ret st
 |_,_,_=>False
theorem z5Ib {K:Cx} {Cd:Prop} {base base':z4f} {n:Nat} {Q:z5c→ASt→Prop} (h:z3I K base base') (hf:z4Qb K base→z4Qb K base') (he:Cd→base'=base):∀e a w,z4Jb K Cd base' n Q e a w→z4Jb K Cd base n Q e a w:=by
 intro e a w hl
 cases e<;>simp only[z4Jb] at hl⊢
 all_goals (obtain⟨b,⟨hb,hb',he'⟩,r⟩:=hl;exact⟨b,⟨h.trans hb,fun x=>hb' (hf x),fun hc=>(he' hc).trans (he hc)⟩,r⟩)
section
variable {K : Cx} {n : Nat} {Cd : Prop}
theorem z8oc {keep:List Nat} {gs:List z0h} {xs:List z6a} {x:Code} {Q:z5c→ASt→Prop} {base:z4f} {st:ASt} {a:Act} {w:World} {r:Option Nat} {m:Nat} (hc:z5ra K n (.region keep gs xs) x=true)
  (hv:∀p∈z4a (.region keep gs xs),VB K p) (hcd:gs.all z0h.cold=true∨(z4Qb K base∧¬Cd)) (h:awp K.E (.region keep gs xs) Q st) (hR:Rel K base n st a w):x.wpIn (WF r) m K.P (z4Jb K Cd base n Q) a w:=by
 simp only[z5ra] at hc
 simp only[awp] at h
 obtain⟨hok,hgs,hq⟩:=h
 split at hc
 ·rename_i id ops draw
  simp only[Bool.and_eq_true,Bool.or_eq_true,Bool.not_eq_true'] at hc
  obtain⟨hops,hdr⟩:=hc
  have hV':∀y∈xs,VOk K y.op:=fun y hy f hf=>hv f (by simp only[z4a,List.mem_flatMap];exact⟨y,hy,hf⟩)
  cases draw with
  |false=>
   refine wpIn_region ?_
   rw[List.range_eq_range']
   refine z96b (Q:=z4Jb K Cd base n Q) hops hV' ops.size 0 st a w (by omega) hR (by simpa using hok) fun a' w' hR'=> ?_
   rcases hcd with hcd|hcd
   ·exact⟨base,⟨z3I.refl _ _,fun x=>x,fun _=>rfl⟩,_,z5Lb gs hcd (z0La keep hR') (by simpa using hgs),by simpa using hq⟩
   ·obtain⟨b',e1,e2,e3⟩:=z3qc gs hcd.1 (z0La keep hR') (by simpa using hgs)
    exact⟨b',⟨e1,fun _=>e2,fun h=>absurd h hcd.2⟩,_,e3,by simpa using hq⟩
  |true=>
   rcases hdr with hdr|hdr
   ·cases hdr
   ·have hlen:=(z43a hops).1
    have hmap:(List.range ops.size).map (xs.getD · default)=xs:=by
     apply List.ext_getElem?
     intro i
     rw[List.getElem?_map]
     by_cases hi:i<ops.size
     ·rw[List.getElem?_range hi]
      have hi':i<xs.length:=by rw[←hlen];simpa using hi
      simp[List.getD,List.getElem?_eq_getElem hi']
     ·have hi':¬i<xs.length:=by rw[←hlen];simpa using hi
      rw[List.getElem?_eq_none (by simpa using hi),List.getElem?_eq_none (by omega)]
      rfl
    refine wpIn_region_any hdr.2 ?_
    have hR1:Rel K base n st a {w with drawn:=w.drawn+1}:=by
     obtain⟨g,hI,hS,hO⟩:=hR
     exact⟨g,z9Eb hI,z6tb.slots hS,hO⟩
    refine z1fc hops hV' hdr.1 ops.size (List.range ops.size) _ st a _ (by simp) (by simp) List.pairwise_lt_range (fun i=> ?_) hR1 (by rw[hmap];exact hok) (fun a' w' hR'=> ?_)
    ·simp only[List.mem_range]
     constructor
     ·intro hi
      refine⟨hi,?_⟩
      simp[Array.getD_eq_getD_getElem?,hi]
     ·exact fun h=>h.1
    ·rw[hmap] at hR'
     rcases hcd with hcd|hcd
     ·exact⟨base,⟨z3I.refl _ _,fun x=>x,fun _=>rfl⟩,_,z5Lb gs hcd (z0La keep hR') hgs,hq⟩
     ·obtain⟨b',e1,e2,e3⟩:=z3qc gs hcd.1 (z0La keep hR') hgs
      exact⟨b',⟨e1,fun _=>e2,fun h=>absurd h hcd.2⟩,_,e3,hq⟩
 ·cases hc

theorem z3Sc {a b:Bool} {p:Prop} (h:(a&&b)=true∨p):a=true∨p:=h.imp (fun h=>by simp only[Bool.and_eq_true] at h;exact h.1) id
theorem z5Sc {a b:Bool} {p:Prop} (h:(a&&b)=true∨p):b=true∨p:=h.imp (fun h=>by simp only[Bool.and_eq_true] at h;exact h.2) id
theorem z0Ga:∀(c:z1c) (x:Code) (r:Option Nat) (m:Nat) (Q:z5c→ASt→Prop) (base:z4f) (st:ASt) (a:Act) (w:World),z5ra K n c x=true→(∀p∈z4a c,VB K p)→z4ya c=true→(z2Da c=true∨(z4Qb K base∧¬Cd))→awp K.E c Q st→Rel K base n st a w→x.wpIn (WF r) m K.P (z4Jb K Cd base n Q) a w
 | .ghost g c,x,r,m,Q,base,st,a,w,hc,hv,hf,hcd,h,hR=>by
  simp only[z5ra] at hc
  simp only[awp] at h
  have hf':z4ya c=true:=by simpa only[z4ya] using hf
  rcases hcd with hcd|hcd
  ·simp only[z2Da,Bool.and_eq_true] at hcd
   exact z0Ga c x r m Q base _ a w hc hv hf' (.inl hcd.2) h.2 (z1La g hcd.1 hR h.1)
  ·obtain⟨b',e1,e2,e3⟩:=z51b g hcd.1 hR h.1
   exact wpIn_mono (z0Ga c x r m Q b' _ a w hc hv hf' (.inr ⟨e2,hcd.2⟩) h.2 e3) (z5Ib e1 (fun _=>e2) fun h=>absurd h hcd.2)
 | .holdc s t c,x,r,m,Q,base,st,a,w,hc,hv,hf,hcd,h,hR=>by
  simp only[z5ra] at hc
  simp only[awp] at h
  obtain⟨V,h1,h2⟩:=h
  obtain⟨V',h3,h4⟩:=z3gc s t hR h1
  exact z0Ga c x r m Q base _ a w hc hv (by simpa only[z4ya] using hf) (by simpa only[z2Da] using hcd) (h2 V' h3) h4
 | .thawc b i id c,x,r,m,Q,base,st,a,w,hc,hv,hf,hcd,h,hR=>by
  simp only[z5ra] at hc
  simp only[awp] at h
  simp only[z4a] at hv
  have hf':z4ya c=true:=by simpa only[z4ya] using hf
  rcases hcd with hcd|hcd
  ·simp[z2Da] at hcd
  ·obtain⟨k,e3⟩:=z8Qc b i id hcd.1 hR h.1
   exact z0Ga c x r m Q base _ a w hc hv hf' (.inr hcd) (h.2 k) e3
 | .skip,x,r,m,Q,base,st,a,w,hc,hv,hf,hcd,h,hR=>by
  simp only[z5ra] at hc
  simp only[awp] at h
  split at hc
  ·exact wpIn_skip ⟨base,⟨z3I.refl _ _,fun x=>x,fun _=>rfl⟩,st,hR,h⟩
  ·exact wpIn_label ⟨base,⟨z3I.refl _ _,fun x=>x,fun _=>rfl⟩,st,hR,h⟩
  ·cases hc
 | .exit id,x,r,m,Q,base,st,a,w,hc,hv,hf,hcd,h,hR=>by
  simp only[z5ra] at hc
  simp only[awp] at h
  split at hc
  ·simp only[beq_iff_eq] at hc
   subst hc
   exact wpIn_exit ⟨base,⟨z3I.refl _ _,fun x=>x,fun _=>rfl⟩,st,hR,h⟩
  ·cases hc
 | .ret,x,r,m,Q,base,st,a,w,hc,hv,hf,hcd,h,hR=>by
  simp only[z5ra] at hc
  simp only[awp] at h
  split at hc
  ·exact wpIn_ret ⟨base,⟨z3I.refl _ _,fun x=>x,fun _=>rfl⟩,st,hR,h⟩
  ·cases hc
 | .bad,x,r,m,Q,base,st,a,w,hc,hv,hf,hcd,h,hR=>by
  simp only[awp] at h
 | .alt p q,x,r,m,Q,base,st,a,w,hc,hv,hf,hcd,h,hR=>by
  simp only[z5ra,Bool.and_eq_true] at hc
  simp only[awp] at h
  simp only[z4a,List.mem_append] at hv
  simp only[z4ya,Bool.and_eq_true] at hf
  rcases h with h|h
  ·exact z0Ga p x r m Q base st a w hc.1 (fun f hf=>hv f (.inl hf)) hf.1 (z3Sc hcd) h hR
  ·exact z0Ga q x r m Q base st a w hc.2 (fun f hf=>hv f (.inr hf)) hf.2 (z5Sc hcd) h hR
 | .region keep gs xs,x,r,m,Q,base,st,a,w,hc,hv,hf,hcd,h,hR=>z8oc hc hv hcd h hR
 | .seq p q,x,r,m,Q,base,st,a,w,hc,hv,hf,hcd,h,hR=>by
  simp only[z5ra] at hc
  simp only[awp] at h
  simp only[z4a,List.mem_append] at hv
  simp only[z4ya,Bool.and_eq_true] at hf
  split at hc
  ·rename_i y z
   simp only[Bool.and_eq_true] at hc
   refine wpIn_seq (wpIn_mono (z0Ga p y r m _ base st a w hc.1 (fun f hf=>hv f (.inl hf)) hf.1 (z3Sc hcd) h hR) ?_)
   intro e a' w' hl
   cases e<;>simp only[z4Jb] at hl<;>simp only[Exit.then]
   ·obtain⟨b',⟨hE,hE',hE2⟩,st',hR',hq⟩:=hl
    exact wpIn_mono (z0Ga q z r m Q b' st' a' w' hc.2 (fun f hf=>hv f (.inr hf)) hf.2 ((z5Sc hcd).imp (fun h=>h) fun h=>⟨hE' h.1,h.2⟩) hq hR') (z5Ib hE hE' hE2)
   ·exact hl
   ·exact hl
  ·cases hc
 | .cond c p q,x,r,m,Q,base,st,a,w,hc,hv,hf,hcd,h,hR=>by
  simp only[z5ra] at hc
  simp only[awp] at h
  simp only[z4a,List.mem_append] at hv
  simp only[z4ya,Bool.and_eq_true] at hf
  split at hc
  ·rename_i c' y z
   simp only[Bool.and_eq_true] at hc
   obtain⟨⟨hcc,hy⟩,hz⟩:=hc
   obtain⟨hb,ht,hf'⟩:=h
   have hR':=hR
   obtain⟨g,hI,hS,_⟩:=hR'
   obtain⟨_,hval⟩:=z3kb (z3qa hI hS hcc) hb
   refine wpIn_cond_split hval (fun e=> ?_) (fun e=> ?_)
   ·exact z0Ga p y r m Q base st a w hy (fun f hf=>hv f (.inl hf)) hf.1 (z3Sc hcd) (ht e) hR
   ·exact z0Ga q z r m Q base st a w hz (fun f hf=>hv f (.inr hf)) hf.2 (z5Sc hcd) (hf' e) hR
  ·cases hc
 | .scope b,x,r,m,Q,base,st,a,w,hc,hv,hf,hcd,h,hR=>by
  simp only[z5ra] at hc
  simp only[awp] at h
  simp only[z4ya] at hf
  split at hc
  ·rename_i p
   refine z4Zb (wpIn_mono (z0Ga b p r m Q base st a w hc hv hf hcd h hR) ?_)
   intro e a' w' hl
   cases e<;>simp only[z4Jb] at hl<;>exact hl
  ·cases hc
 | .block id b,x,r,m,Q,base,st,a,w,hc,hv,hf,hcd,h,hR=>by
  simp only[z5ra] at hc
  simp only[awp] at h
  simp only[z4ya] at hf
  split at hc
  ·rename_i id' p
   simp only[Bool.and_eq_true,beq_iff_eq] at hc
   obtain⟨rfl,hp⟩:=hc
   refine wpIn_block (wpIn_mono (z0Ga b p r m _ base st a w hp hv hf hcd h hR) ?_)
   intro e a' w' hl
   cases e<;>simp only[z4Jb] at hl<;>simp only[Exit.inBlock]
   ·exact hl
   ·rename_i id'
    obtain⟨b',hE,st',hR',hq⟩:=hl
    simp only[z8v] at hq
    split
    ·rename_i he
     rw[if_pos he] at hq
     exact⟨b',hE,st',hR',hq⟩
    ·rename_i he
     rw[if_neg he] at hq
     exact⟨b',hE,st',hR',hq⟩
   ·exact hl
  ·cases hc
 | .loop b,x,r,m,Q,base,st,a,w,hc,hv,hf,hcd,h,hR=>by
  simp only[z5ra] at hc
  simp only[awp] at h
  simp only[z4ya] at hf
  split at hc
  ·rename_i p
   obtain⟨I,⟨k,hm⟩,hround⟩:=h
   refine z4lb (fun k a w=>∃b',(z3I K base b'∧(z4Qb K base→z4Qb K b')∧(Cd→b'=base))∧∃st,Rel K b' n st a w∧I k st) ⟨base,⟨z3I.refl _ _,fun x=>x,fun _=>rfl⟩,st,hR,hm⟩ fun k a w hj=> ?_
   obtain⟨b',⟨hE,hE',hE2⟩,st',hR',hI⟩:=hj
   refine wpIn_mono (z0Ga b p r m _ b' st' a w hc hv hf (hcd.imp (fun h=>h) fun h=>⟨hE' h.1,h.2⟩) (hround _ st' hI) hR') ?_
   intro e a' w' hl
   have hl:=z5Ib hE hE' hE2 e a' w' hl
   cases e<;>simp only[z4Jb] at hl<;>simp only[Exit.then]
   ·obtain⟨b2,hE2,st2,hR2,m',hlt,hI'⟩:=hl
    exact⟨m',hlt,b2,hE2,st2,hR2,hI'⟩
   ·exact hl
   ·exact hl
  ·cases hc
 | .range f t ks ps as bd,x,r,m,Q,base,st,a,w,hc,hv,hf,hcd,h,hR=>by
  simp[z4ya] at hf
theorem z2Sb {ops:Array Oper} {base:z4f} {Q:Exit→Act→World→Prop} {r:Option Nat} {q:Nat} {rest:List Nat}:∀(xs:List z6a) (s:Nat) (st:ASt) (a:Act) (w:World),z90a K n ops ((ops.toList.drop s).take xs.length) xs=true→(∀x∈xs,VOk K x.op)→Rel K base n st a w→
  z4t K.E xs st→(∀a' w',Rel K base n (z8I K.E xs st) a' w'→wpOpsIn (WF r) q K.P ops Q rest a' w')→wpOpsIn (WF r) q K.P ops Q (List.range' s xs.length++rest) a w
 |[],s,st,a,w,_,_,hR,_,hn=>by simpa using hn a w hR
 |x::xs,s,st,a,w,hc,hV,hR,hok,hn=>by
  cases hd:ops.toList.drop s with
  |nil=>rw[hd] at hc;simp[z90a] at hc
  |cons o os=>
   rw[hd] at hc
   simp only[List.length_cons,List.take_succ_cons,z90a,Bool.and_eq_true] at hc
   have hs:s<ops.size:=by
    have:(ops.toList.drop s).length≠0:=by rw[hd];simp
    simp at this;omega
   have ho:ops[s]? =some o:=by
    have:(ops.toList.drop s)[0]? =some o:=by rw[hd];rfl
    rw[List.getElem?_drop] at this
    simpa using this
   have hos:ops.toList.drop (s+1)=os:=by
    rw[←List.drop_drop,hd];rfl
   rw[List.length_cons,List.range'_succ,List.cons_append,wpOpsIn_cons]
   refine z8Kb (oper:=o) (o:=x) hR ho hc.1 hok.1 (hV x (by simp)) fun a' w' hR'=> ?_
   exact z2Sb xs (s+1) _ a' w' (by rw[hos];exact hc.2) (fun y hy=>hV y (by simp[hy])) hR' hok.2 hn
theorem z6Oc {Cd:Prop} {base:z4f} {Q:z5c→ASt→Prop}:∀e a w,z4Jb K Cd base n Q e a w→z2Mb K base n Q e a w:=by
 intro e a w h
 cases e<;>simp only[z4Jb] at h<;>simp only[z2Mb]
 all_goals (obtain⟨b,⟨hb,_⟩,r⟩:=h;exact⟨b,hb,r⟩)
end
end Go.Abs
end

section
namespace Go.Abs

inductive z7M where
 |t (s:Nat)
 |cell (s:Nat) (k:Option Nat) (id:Nat)
 |o (s:Nat)
 deriving Inhabited

structure z1ka where
 n:Nat
 wr:List Nat:=[]
 body:z1c
 res:List z7M

def z4e (i:Nat):List z0a→List (Nat×z0a)
 |[]=>[]
 |d::ds=>(i,d)::z4e (i+1) ds
def z4H (wr:List Nat) (ds:List z0a):ASt:=
 {org:=(z4e 0 ds).filter fun p=> !wr.contains p.1
  env:=((z4e 0 ds).filter fun p=>wr.contains p.1).map fun p=>(p.1,dem p.2)
  box:=[]}

def z97 (st:ASt):z7M→z0a
 | .t s=>dem (st.get s)
 | .o s=>dem (st.get s)
 | .cell s k id=>match k with
  |none=>dem (hdA (z6d st.getB (some id) (st.get s)))
  |some n=> .agg ((z6d st.getB (some id) (st.get s)).take n)
def z6K (st:ASt):z7M→Prop
 | .t _=>True
 | .o _=>True
 | .cell s k id=>z1o st.getB (some id) (k.getD 1) (st.get s)
def z1K (st:ASt):List z7M→z0a
 |[.t s]=>st.get s
 |[r]=>z97 st r
 |rs=> .tup (rs.map (z97 st))
def z0X (d:z0a) (rest:List z0a):z0a:=match d with| .sl (.own e) nl n cs=> .otup e nl n cs rest|d=> .tup (dem d::rest)
def z7uc (st:ASt) (rs:List z7M):z0a:=match rs with
 | .o s::r::rs=>z0X (st.get s) ((r::rs).map (z97 st))
 |rs=>z1K st rs

def z4xa (res:List z7M) (v:z0a):z5c→ASt→Prop
 | .normal,st| .ret,st=>(∀r∈res,z6K st r)∧z7uc st res=v∧z0b v=true
 |_,_=>False

def z14a (K:Cx):List z7M→List ResultVar→Bool
 |[],[]=>true
 | .t s::rs,.tmp t::vs=>(s==t)&&z14a K rs vs
 | .o s::rs,.tmp t::vs=>(s==t)&&z14a K rs vs
 | .cell s k _::rs,.cell t ty::vs=>(s==t)&&z0Gc K.P ty k&&(match k with|some n=>n !=0|none=>true)&&z14a K rs vs
 |_,_=>false

def z5sa (K:Cx) (f:z1ka) (fn:Func):Bool:=
 !(fn.name== "runtime.NumGoroutine")&&(match fn.body with|some c=>z5ra K fn.ntmps f.body c|none=>false)&&z14a K f.res fn.results.toList&&decide (f.n≤fn.ntmps)

section
variable {K : Cx} {base : z4f} {n : Nat} {st : ASt} {a : Act} {w : World}

theorem z5a.len {K:Con} {S:Nat→Nat} {w:World}:∀{ds:List z0a} {vs:List Value},z5a K S w ds vs→ds.length=vs.length
 |[],_,h=>by simp only[z5a] at h;subst h;rfl
 |_::_,_,h=>by
  simp only[z5a] at h
  obtain⟨x,xs,rfl,_,h2⟩:=h
  simp[z5a.len h2]
theorem z5a.get {K:Con} {S:Nat→Nat} {w:World}:∀{ds:List z0a} {vs:List Value},z5a K S w ds vs→∀(i:Nat) (d:z0a),ds[i]? =some d→∃v,vs[i]? =some v∧z9b K S w d v
 |[],_,h,i,d,hd=>by simp at hd
 |c::cs,l,h,i,d,hd=>by
  simp only[z5a] at h
  obtain⟨x,xs,rfl,h1,h2⟩:=h
  cases i with
  |zero=>simp at hd;subst hd;exact⟨x,by simp,h1⟩
  |succ i=>simp at hd;obtain⟨v,hv,hr⟩:=z5a.get h2 i d hd;exact⟨v,by simpa using hv,hr⟩

theorem z12b:∀(ds:List z0a) (i s:Nat),lk (z4e i ds) s=if i≤s then ds[s-i]? else none
 |[],i,s=>by simp[z4e,lk]
 |d::ds,i,s=>by
  simp only[z4e,lk]
  by_cases h:s=i
  ·subst h;simp
  ·rw[if_neg h,z12b ds (i+1) s]
   by_cases hi:i≤s
   ·rw[if_pos hi,if_pos (by omega),show s-i=(s-(i+1))+1 by omega]
    simp
   ·rw[if_neg hi,if_neg (by omega)]

theorem z28b (wr:List Nat) (ds:List z0a) (s:Nat):lk (z4H wr ds).org s=if s∈wr then none else ds[s]? :=by
 have:(z4H wr ds).org=(z4e 0 ds).filter fun p=>(fun k=> !wr.contains k) p.1:=rfl
 rw[this,z2za (fun k=> !wr.contains k),z12b]
 by_cases h:s∈wr<;>simp[h]
theorem z46c (wr:List Nat) (ds:List z0a) (s:Nat):lk (z4H wr ds).env s=if s∈wr then(ds[s]?).map dem else none:=by
 have:(z4H wr ds).env=((z4e 0 ds).filter fun p=>(fun k=>wr.contains k) p.1).map fun p=>(p.1,dem p.2):=rfl
 rw[this,z31b dem,z2za (fun k=>wr.contains k),z12b]
 by_cases h:s∈wr<;>simp[h]

theorem z27c (wr:List Nat) {S:Nat→Nat} {ds:List z0a} {vs:List Value} (hg:∀n∈K.N.gs,z4b K.toCon S w (K.E.T n) (K.N.gnum n) 0) (h:z5a K.toCon S w ds vs) (m:Nat) (hm:vs.length+m=n):
  Rel K ⟨w,fun _=>False,S,[],fun _=>none⟩ n (z4H wr ds) {tmps:=vs.toArray++Array.replicate m undef,defers:=[]} w:=by
 have hlen:=h.len
 have hget:∀s d,ds[s]? =some d→z9b K.toCon S w d ((vs.toArray++Array.replicate m undef).getD s undef):=fun s d hd=>by
  obtain⟨v,hv,hr⟩:=h.get s d hd
  have hs:s<vs.length:=(List.getElem?_eq_some_iff.1 hv).1
  rw[Array.getD_eq_getD_getElem?,Array.getElem?_append_left (by simpa using hs)]
  simpa[hv] using hr
 have hk:z9d S w (z4f.S ⟨w,fun _=>False,S,[],fun _=>none⟩) w:=fun b i x hi hc=>by
  refine⟨?_,hc⟩
  have hb:b<w.heap.size:=World.block_lt_of_cell? w ⟨b,i,none⟩ hc
  unfold z4f.S
  rw[if_pos ⟨hb,fun h=>h⟩]
  exact hi
 refine⟨{S:=S,ow:=fun _=>none,mu:=fun _=>none},{fr:=Fr.refl _ _ _,sS:=fun _ _ _=>rfl,inj:=fun _ _ _ h _=>(by cases h),bxok:=fun id cs h=>by simp[ASt.getB,z4H,lk] at h,nobx:=fun _ _=>rfl,muW:=fun _ _ h=>(by cases h),owW:=fun _ _ h=>(by cases h),glob:=hg,kp:=z9d.refl _ _,obok:=fun _ _ _ _ h=>(by cases h),old:=fun _ _ _ _ h=>(by cases h)},fun s=> ?_,fun s d hs=> ?_,rfl,by simp;exact hm⟩
 ·unfold ASt.get
  rw[z46c,z28b]
  by_cases hs:s∈wr
  ·rw[if_pos hs]
   cases hd:ds[s]? with
   |none=>simp[hs,Abs.dem,Rep]
   |some d=>simp only[Option.map_some];exact z9b.dem (g:=⟨S,_,_⟩) _ (hget s d hd)
  ·rw[if_neg hs,if_neg hs]
   cases hd:ds[s]? with
   |none=>simp[Abs.dem,Rep]
   |some d=>exact z9b.dem (g:=⟨S,_,_⟩) _ (hget s d hd)
 ·rw[z28b] at hs
  split at hs
  ·cases hs
  ·exact z9b.mono hk d _ (hget s d hs)

theorem z32b {P:Program} {t:TypeId} {k:Option Nat} (hk:z0Gc P t k=true) {bk o:Nat} {vs:List Value} (hr:w.rangeAt bk o vs) (hn:k.getD 1≤vs.length):
  (loadVar t ⟨bk,o,none⟩).run P w= .ok (z8fc k vs) w:=by
 unfold z8fc
 cases k with
 |none=>
  simp only[z0Gc,Bool.and_eq_true] at hk
  obtain⟨D,hu,hD⟩:=z3wa hk.1
  cases vs with
  |nil=>simp at hn
  |cons v r=>
   have h0:=hr 0 v (by simp)
   simp only[Nat.add_zero] at h0
   cases D<;>simp[TypeDesc.isRow] at hD<;>simp[loadVar,isAgg,run_underlying hu,h0]
 |some n=>
  simp only[z0Gc,Bool.and_eq_true] at hk
  obtain⟨D,hu,hD⟩:=z3wa hk.1
  simp only[Option.getD_some] at hn
  exact run_loadVar_mid w bk o t (vs.take n) D (fun j v hv=>by
   rw[List.getElem?_take] at hv
   split at hv
   ·exact hr j v hv
   ·cases hv) hu hD (by rw[List.length_take,Nat.min_eq_left hn];exact z1Ub hk.2)

def z19a (tmps:Array Value):ResultVar→Sem Value
 | .tmp t=>pure (tmps.getD t undef)
 | .cell a t=>do loadVar t (←asAddr (tmps.getD a undef))

theorem z3Kb {g:Gh} (hI:Inv K base g w st.getB) (hS:z2v K g w st.get a):∀{rs:List z7M} {vs:List ResultVar},z14a K rs vs=true→(∀r∈rs,z6K st r)→
  ∃xs,(List.mapM (z19a a.tmps) vs).run K.P w= .ok xs w∧z2b K.toCon g w (rs.map (z97 st)) xs∧(∀s,rs=[.t s]→xs=[a.tmps.getD s undef])∧(∀s r',rs= .o s::r'→∃ys,xs=a.tmps.getD s undef::ys)
 |[],[],_,_=>⟨[],by simp,by simp[z2b],by simp,by simp⟩
 |[],_::_,h,_=>by simp[z14a] at h
 | .t _::_,[],h,_=>by simp[z14a] at h
 | .o _::_,[],h,_=>by simp[z14a] at h
 | .o _::rs,.cell _ _::vs,h,_=>by simp[z14a] at h
 | .cell _ _ _::_,[],h,_=>by simp[z14a] at h
 | .t s::rs,.cell _ _::vs,h,_=>by simp[z14a] at h
 | .cell _ _ _::rs,.tmp _::vs,h,_=>by simp[z14a] at h
 | .t s::rs,.tmp t::vs,h,hok=>by
  simp only[z14a,Bool.and_eq_true,beq_iff_eq] at h
  obtain⟨rfl,h⟩:=h
  obtain⟨xs,h1,h2,h3⟩:=z3Kb hI hS h (fun r hr=>hok r (by simp[hr]))
  refine⟨a.tmps.getD s undef::xs,?_,?_,fun s' hs'=> ?_,fun s' r' hs'=>by simp at hs'⟩
  ·simp only[List.mapM_cons,z19a,Sem.run_bind,Sem.run_pure,Result.andThen_ok,h1]
  ·simp only[List.map_cons,z2b,z97]
   exact⟨_,_,rfl,Rep.dem _ (hS s),h2⟩
  ·simp only[List.cons.injEq,z7M.t.injEq] at hs'
   obtain⟨rfl,rfl⟩:=hs'
   have:=h2.len
   simp at this
   rw[List.length_eq_zero_iff.1 this.symm]
 | .o s::rs,.tmp t::vs,h,hok=>by
  simp only[z14a,Bool.and_eq_true,beq_iff_eq] at h
  obtain⟨rfl,h⟩:=h
  obtain⟨xs,h1,h2,h3⟩:=z3Kb hI hS h (fun r hr=>hok r (by simp[hr]))
  refine⟨a.tmps.getD s undef::xs,?_,?_,fun s' hs'=>by simp at hs',fun s' r' hs'=> ?_⟩
  ·simp only[List.mapM_cons,z19a,Sem.run_bind,Sem.run_pure,Result.andThen_ok,h1]
  ·simp only[List.map_cons,z2b,z97]
   exact⟨_,_,rfl,Rep.dem _ (hS s),h2⟩
  ·simp only[List.cons.injEq,z7M.o.injEq] at hs'
   obtain⟨rfl,rfl⟩:=hs'
   exact⟨xs,rfl⟩
 | .cell s k id::rs,.cell t ty::vs,h,hok=>by
  simp only[z14a,Bool.and_eq_true,beq_iff_eq] at h
  obtain⟨⟨⟨rfl,hk⟩,hn0⟩,h⟩:=h
  obtain⟨xs,h1,h2,h3⟩:=z3Kb hI hS h (fun r hr=>hok r (by simp[hr]))
  have hpos:0<k.getD 1:=by
   cases k with
   |none=>simp
   |some n=>simp at hn0⊢;omega
  have hok1:=hok (.cell s k id) (by simp)
  simp only[z6K] at hok1
  obtain⟨bk,off,ws,hv,hr,hrl,hn⟩:=z4xc hI hok1 hpos (z87a (hS s))
  refine⟨z8fc k ws::xs,?_,?_,fun s' hs'=>by simp at hs',fun s' r' hs'=>by simp at hs'⟩
  ·simp only[List.mapM_cons,z19a,Sem.run_bind,hv,asAddr,Sem.run_pure,Result.andThen_ok,z32b hk hr hn,h1]
  ·simp only[List.map_cons,z2b,z97]
   refine⟨_,_,rfl,?_,h2⟩
   cases k with
   |some n=>simp only[Rep,z8fc];exact⟨_,rfl,by simpa using hrl.take n⟩
   |none=>
    simp only[z8fc]
    cases hcs:z6d st.getB (some id) (st.get s) with
    |nil=>have:=hrl.len;rw[hcs] at this;simp at this hn;omega
    |cons c cs=>
     rw[hcs] at hrl
     simp only[z2b] at hrl
     obtain⟨v,r,rfl,h1,_⟩:=hrl
     exact Rep.dem _ h1

def z2Ec (K:Cx) (b:z1c):Prop:=∀(n:Nat) (x:Code) (Q:z5c→ASt→Prop) (base:z4f) (st:ASt) (a:Act) (w:World),z5ra K n b x=true→(z2Da b=true∨z4Qb K base)→awp K.E b Q st→Rel K base n st a w→x.wpIn (WF none) 0 K.P (z2Mb K base n Q) a w
theorem z2gb {b:z1c} (hv:∀p∈z4a b,VB K p) (hf:z4ya b=true):z2Ec K b:=fun n x Q base st a w hc ht h hR=>wpIn_mono (z0Ga (Cd:=False) b x none 0 Q base st a w hc hv hf (ht.imp (fun h=>h) fun h=>⟨h,fun h=>h⟩) h hR) z6Oc
theorem z4Rc {b:z1c} (hv:∀p∈z4a b,VB K p) (hi:∀f∈z5Oa b,z8Ha K f (K.E.I f)) (hfl:z20a b=true) (ht:(z2Da b||z4ya b)=true):z2Ec K b:=fun n x Q base st a w hc hF h hR=>by
 cases hcold:z2Da b with
 |true=>exact z9Ba b x none 0 _ _ _ _ w hc hv hi (.inr ⟨rfl,hfl⟩) hcold h hR
 |false=>
  rw[hcold,Bool.false_or] at ht
  exact z2gb hv ht n x Q base st a w hc hF h hR
theorem z0Gb {f:Nat} {fn:Func} {F:z1ka} {c:z1f} (hf:K.P.funcs[K.nu f]? =some fn) (hc:z5sa K F fn=true) (hs:z2Ec K F.body)
  (h:∀ds,c.pre ds→ds.length=F.n∧awp K.E F.body (z4xa F.res (c.post ds)) (z4H F.wr ds)):z1a K f c:=by
 simp only[z5sa,Bool.and_eq_true,Bool.not_eq_true',decide_eq_true_eq] at hc
 obtain⟨⟨⟨hname,hbody⟩,hres⟩,hsz⟩:=hc
 cases hb:fn.body with
 |none=>rw[hb] at hbody;cases hbody
 |some code=>
  rw[hb] at hbody
  simp only at hbody
  refine⟨⟨fn,hf,by rw[hb];rfl,hname⟩,fun S w ds vs hg hds hpre=> ?_⟩
  obtain⟨hlen,hw⟩:=h ds hpre
  have hl2:=hds.len
  refine callsIn_wide.1 (callsIn_of_wp_marks (F:=WF none) (n:=0) hf hb (z36b none _) ?_)
  have hR:=z27c (n:=fn.ntmps) F.wr hg hds (fn.ntmps-vs.length) (by omega)
  have hwp:=hs fn.ntmps code _ _ _ _ w hbody (.inr ⟨fun _ h=>False.elim h,hg⟩) hw hR
  simp only[List.size_toArray]
  refine wpIn_mono hwp fun e a' w' hl=> ?_
  have fin:∀st g w',Inv K ⟨w,fun _=>False,S,[],fun _=>none⟩ g w' st.getB→z2v K g w' st.get a'→((∀r∈F.res,z6K st r)∧z7uc st F.res=c.post ds∧z0b (c.post ds)=true)→
    ∃v,(results fn a'.tmps).run K.P w'= .ok v w'∧∃v' g',Ending.returned v= .returned v'∧Fr w.heap.size (fun _=>False) w w'∧Rep K.toCon g' w' (some .ret) (c.post ds) v'∧
     (∀b l,g'.ow b=some l→w.heap.size≤b∧b<w'.heap.size)∧∀b,b<w.heap.size→g'.S b=S b:=fun st g w' hI hS hq=>by
   obtain⟨hok,hval,hpure⟩:=hq
   obtain⟨xs,h1,h2,h3,h3o⟩:=z3Kb hI hS hres hok
   have hmap:fn.results.mapM (z19a a'.tmps)=Functor.map List.toArray (fn.results.toList.mapM (z19a a'.tmps)):=by
    exact Array.mapM_eq_mapM_toList
   have hrun:(results fn a'.tmps).run K.P w'= .ok (if h:xs.toArray.size=1 then xs.toArray[0] else .tuple xs.toArray) w':=by
    have:results fn a'.tmps=(do
     let vs←fn.results.mapM (z19a a'.tmps)
     pure (if h:vs.size=1 then vs[0] else .tuple vs)):=rfl
    rw[this,hmap]
    simp only[map_eq_pure_bind,Sem.run_bind,h1,Result.andThen_ok,Sem.run_pure]
   refine⟨_,hrun,?_⟩
   have how:∀b l,g.ow b=some l→w.heap.size≤b∧b<w'.heap.size:=fun b l hb=>by
    obtain⟨k1,k2⟩:=hI.owW b l hb
    exact⟨k1.resolve_right (fun h=>h),k2⟩
   have hSb:∀b,b<w.heap.size→g.S b=S b:=fun b hb=>hI.sS b hb (fun h=>h)
   by_cases hone:∃s,F.res=[.t s]
   ·obtain⟨s,hs⟩:=hone
    have hx:=h3 s hs
    subst hx
    rw[hs] at hval
    simp only[z7uc,z1K] at hval
    refine⟨a'.tmps.getD s undef,z4Pa g (.slot s) .ret,by simp,hI.fr,?_,fun b l hb=> ?_,hSb⟩
    ·rw[←hval];exact z8Ca (hS s)
    ·simp only[z4Pa] at hb
     split at hb
     ·rename_i he;exact how b _ he
     ·exact how b l hb
   ·have hl3:=h2.len
    simp only[List.length_map] at hl3
    have rest:∀{d:z0a} {v:Value},Rep K.toCon g w' none d v→z5b d=false→d=c.post ds→Rep K.toCon g w' (some .ret) (c.post ds) v:=fun {d v} hr ho he=>by
     rw[←he];exact z80a _ ho hr
    have hdem:∀d:z0a,z5b (dem d)=false:=z9Ua
    cases hF:F.res with
    |nil=>
     rw[hF] at h2 hval hl3
     simp only[List.map_nil,z2b] at h2
     subst h2
     refine⟨_,g,rfl,hI.fr,?_,how,hSb⟩
     refine rest (d:= .tup []) ?_ rfl (by rw[←hval];rfl)
     simp[Rep,z2b]
    |cons r rs=>
     rw[hF] at h2 hval hl3 hone
     cases rs with
     |nil=>
      simp only[List.map_cons,List.map_nil,z2b] at h2
      obtain⟨x,ys,rfl,h4,rfl⟩:=h2
      refine⟨x,g,by simp,hI.fr,?_,how,hSb⟩
      cases r with
      |t s=>exact absurd ⟨s,rfl⟩ hone
      |o s=>
       simp only[z7uc,z1K] at hval
       exact rest h4 (hdem _) hval
      |cell s k id=>
       simp only[z7uc,z1K] at hval
       refine rest h4 ?_ hval
       cases k with
       |none=>exact hdem _
       |some n=>rfl
     |cons r2 rs=>
      have h5:¬(xs.toArray.size=1):=by simp only[List.size_toArray,←hl3,List.length_cons];omega
      have dflt:c.post ds= .tup ((r::r2::rs).map (z97 st))→∃v' g',(.returned (if h:xs.toArray.size=1 then xs.toArray[0] else .tuple xs.toArray):Ending)= .returned v'∧Fr w.heap.size (fun _=>False) w w'∧Rep K.toCon g' w' (some .ret) (c.post ds) v'∧
        (∀b l,g'.ow b=some l→w.heap.size≤b∧b<w'.heap.size)∧∀b,b<w.heap.size→g'.S b=S b:=fun he=>by
       refine⟨.tuple xs.toArray,g,by rw[dif_neg h5],hI.fr,?_,how,hSb⟩
       refine rest (d:= .tup ((r::r2::rs).map (z97 st))) ?_ rfl he.symm
       simp only[Rep]
       exact⟨_,rfl,by simpa using h2⟩
      cases r with
      |t s=>exact dflt (by rw[←hval];rfl)
      |cell s k id=>exact dflt (by rw[←hval];rfl)
      |o s=>
       have hval':z0X (st.get s) ((r2::rs).map (z97 st))=c.post ds:=hval
       unfold z0X at hval'
       split at hval'
       ·rename_i e nl n cs hget
        obtain⟨ys,hys⟩:=h3o s _ hF
        have hm:=z8Ca (l1:= .ret) (z4Ab hS s)
        rw[hget] at hm
        simp only[Rep] at hm
        simp only[List.map_cons,z2b] at h2
        obtain⟨x,zs,hx,_,h6⟩:=h2
        rw[hys] at hx
        simp only[List.cons.injEq] at hx
        obtain⟨rfl,rfl⟩:=hx
        refine⟨.tuple xs.toArray,z4Pa g (.slot s) .ret,by rw[dif_neg h5],hI.fr,?_,fun b l hb=> ?_,hSb⟩
        ·rw[←hval']
         simp only[Rep]
         refine⟨xs.toArray,_,ys,rfl,hys,hm,?_⟩
         exact z2b.mono (g:=g) (g':=z4Pa g (.slot s) .ret) (z9d.refl g.S w') ((r2::rs).map (z97 st)) ys (fun _ _ _ h=>h) (by simpa[z2b] using h6)
        ·simp only[z4Pa] at hb
         split at hb
         ·rename_i he;exact how b _ he
         ·exact how b l hb
       ·rename_i d hd
        exact dflt (by rw[←hval'];rfl)
  cases e<;>simp only[z2Mb] at hl<;>simp only[bodyPostM]
  ·obtain⟨b',hE,st,hR',hq⟩:=hl
   exact z9Ec hE rfl hR' fun g w' hI hS hO=>fin st g w' hI hS hq
  ·obtain⟨b',hE,st,_,hq⟩:=hl
   exact hq
  ·obtain⟨b',hE,st,hR',hq⟩:=hl
   exact z9Ec hE rfl hR' fun g w' hI hS hO=>fin st g w' hI hS hq

theorem z6qb {f:Nat} {fn:Func} {F:z1ka} {c:z1f} (hf:K.P.funcs[K.nu f]? =some fn) (hc:z5sa K F fn=true) (hv:∀p∈z4a F.body,VB K p)
  (h:∀ds,c.pre ds→ds.length=F.n∧awp K.E F.body (z4xa F.res (c.post ds)) (z4H F.wr ds)) (hi:∀f∈z5Oa F.body,z8Ha K f (K.E.I f)) (hfl:z20a F.body=true) (ht:(z2Da F.body||z4ya F.body)=true):z1a K f c:=z0Gb hf hc (z4Rc hv hi hfl ht) h
theorem z0jb {f:Nat} {fn:Func} {F:z1ka} {c:z1f} (hf:K.P.funcs[K.nu f]? =some fn) (hc:z5sa K F fn=true) (hv:∀p∈z4a F.body,VB K p)
  (h:∀ds,c.pre ds→ds.length=F.n∧awp K.E F.body (z4xa F.res (c.post ds)) (z4H F.wr ds)) (hfl:z4ya F.body=true):z1a K f c:=z0Gb hf hc (z2gb hv hfl) h
end
end Go.Abs
end
