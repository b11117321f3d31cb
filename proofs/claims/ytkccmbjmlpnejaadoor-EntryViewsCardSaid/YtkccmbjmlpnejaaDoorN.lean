/- Lemmas: an abstract interpreter, and what the functions compute. -/
import Derived.Test.YtkccmbjmlpnejaaDoorL
import Derived.Test.YtkccmbjmlpnejaaDoorK
import Derived.Test.YtkccmbjmlpnejaaDoorI
import Derived.Test.YtkccmbjmlpnejaaDoorE
import Derived.Test.YtkccmbjmlpnejaaDoorT
import Derived.KernelRfl
set_option linter.unusedSimpArgs false
set_option linter.unusedVariables false
set_option linter.unusedSectionVars false
section
namespace Go.Abs
end Go.Abs
end

section
namespace Go.Abs
structure z3e where
 id:Int
 ty:Int
 uses:Int
 beg:Int
 fin:Int
 ver:Int
 par:Int
 raw:Bool
 dig:List UInt8
def z2n (m:z3e):List z2a:=[i64 m.id,i64 m.ty,i64 m.uses,i64 m.beg,i64 m.fin,i64 m.ver,i64 m.par,bo m.raw]++bys m.dig
structure z9o where
 time:Int
 kind:Int
 req:Int
 mode:Int
 cmd:Cmd
 dig:List UInt8
 made:List z3e
 gone:List Int
def z6b (l:List z3e):List z2a:=l.flatMap z2n
def z5l (nc nm ng:Option Bool) (x:z9o):List z2a:=[i64 x.time,i64 x.kind,i64 x.req,i64 x.mode]++z1q x.cmd nc++bys x.dig++[.sl .plain nm x.made.length (z6b x.made),.sl .plain ng x.gone.length (z4j x.gone)]
def z3e.ok (m:z3e):Prop:=z2l m.id∧z2l m.ty∧z2l m.uses∧z2l m.beg∧z2l m.fin∧z2l m.ver∧z2l m.par∧m.dig.length=16
def z9o.ok (x:z9o):Prop:=z2l x.time∧z2l x.kind∧z2l x.req∧z2l x.mode∧x.cmd.ok∧x.dig.length=16∧(∀m∈x.made,m.ok)∧∀n∈x.gone,z2l n
def z94c (b:Bool):Int:=if b then 1 else 0
def z4ja (m:z3e):List Int:=[m.id,m.ty,m.uses,m.beg,m.fin,m.ver,m.par,z94c m.raw]
def z9Ca (m:z3e):List UInt8:=z0q (z4ja m)++m.dig
def z6Aa (x:z9o):List UInt8:=z0q [x.time,x.kind,x.req,x.mode]++(z3U (z4Z x.cmd)++(x.dig++(z1t x.made.length++(x.made.flatMap z9Ca++z0q x.gone))))
theorem z63a {m:z3e} (h:m.ok):∀x∈z4ja m,z2l x:=by
 obtain⟨h1,h2,h3,h4,h5,h6,h7,_⟩:=h
 intro x hx
 simp only[z4ja,List.mem_cons,List.not_mem_nil,or_false] at hx
 rcases hx with rfl|rfl|rfl|rfl|rfl|rfl|rfl|rfl
 all_goals first|assumption|skip
 unfold z94c
 split<;>exact⟨by omega,by omega⟩
def z9o.small (x:z9o):Prop:=x.ok∧x.cmd.small∧x.made.length≤1000000∧x.gone.length≤1000000
end Go.Abs
end

section
namespace Go.Abs
instance :DecidableEq z3e:=fun a b=>decidable_of_iff (a.id=b.id∧a.ty=b.ty∧a.uses=b.uses∧a.beg=b.beg∧a.fin=b.fin∧a.ver=b.ver∧a.par=b.par∧a.raw=b.raw∧a.dig=b.dig) (by
 cases a;cases b;simp)
def inR (n lo hi:Int):Bool:=decide (lo≤n)&&decide (n≤hi)
def z0na:Int:=2147483647
def z3bb:Int:=1099511627776
def z5Pb (k:Int):Bool:=decide (k∈([2,4,5,6,8,10,15,19]:List Int))
def z7Gb (c:Cmd):Cmd:=if z5Pb c.kind=true then {c with data:=[]} else c
def z9hc:List UInt8:=z4c 16
def z9Ha (t m:Int):z9o:=⟨t,0,0,m,z5J,z9hc,[],[]⟩
def z3da (x y:z9o):Bool:=x.time==y.time&&x.kind==y.kind&&x.req==y.req&&x.mode==y.mode&&decide (x.dig=y.dig)&&z2mb x.cmd y.cmd&&decide (x.made=y.made)&&decide (x.gone=y.gone)
def z3ja (m:z3e):Bool:=inR m.id 1 z0na&&inR m.ver 1 z0na&&inR m.par 0 z0na&&inR m.ty 0 31&&z9wa m.uses&&inR m.beg 0 m.fin&&inR m.fin 0 z3bb
def okE (x:z9o):Bool:=inR x.time 0 z3bb&&inR x.req 0 z0na&&inR x.mode 1 5&&decide (x.made.length≤4096)&&decide (x.gone.length≤4096)&&x.made.all z3ja&&
 (if x.kind=0 then z3da x (z9Ha x.time x.mode) else inR x.kind 1 27&&(x.cmd.kind==x.kind)&&(!z5Pb x.kind||decide (x.cmd.data=[])))
structure z7i where
 time:Int
 mode:Int
 ents:Int
 next:Int
 keys:List z3e
def z4xa:z7i:=⟨0,1,0,1,[]⟩
def z1O:z7i:=⟨0,0,0,0,[]⟩
def z93 (l:List z3e) (i:Int):Nat:=l.findIdx fun m=>decide (m.id=i)
def z09a (l:List z3e) (i:Int):Option (List z3e):=if z93 l i<l.length then some (l.eraseIdx (z93 l i)) else none
def z6U:List Int→List z3e→Option (List z3e)
 |[],l=>some l
 |i::is,l=>(z09a l i).bind (z6U is)
def z0Jb (m:z3e):z3e:={m with uses:=z6Kb m.uses 176}
def z7sc:z3e:=⟨0,0,0,0,0,0,0,false,z9hc⟩
def z0qa (x:z9o) (l:List z3e):Option (List z3e):=
 if x.kind=13 then(if z93 l x.cmd.key<l.length then some (l.set (z93 l x.cmd.key) (z0Jb (l.getD (z93 l x.cmd.key) z7sc))) else none) else some l
def z0Za:List z3e→Int→Bool
 |[],_=>true
 |m::l,n=>(m.id==n)&&z0Za l (n+1)
structure z05c where
 v:z7i
 e:Int
def z7ea (v:z7i) (x:z9o):z05c:=
 if okE x=true then(if x.time<v.time then⟨z1O,20⟩ else match(z6U x.gone v.keys).bind (z0qa x) with
  |none=>⟨z1O,7⟩
  |some l=>if z0Za x.made v.next=true then(if z0na<v.next+x.made.length then⟨z1O,2⟩ else⟨⟨x.time,x.mode,v.ents+1,v.next+x.made.length,l++x.made⟩,0⟩) else⟨z1O,7⟩)
 else⟨z1O,1⟩
def z9na (m:z3e) (now:Int):Bool:=decide (m.beg≤now)&&decide (now<m.fin)
def z2Sa (v:z7i) (now:Int):List z3e:=v.keys.filter fun m=>z9na m now
/-! ### What stays true -/
def z0Kb (l:List z3e):Prop:=l.Pairwise fun a b=>a.id<b.id
structure z5Xa (v:z7i):Prop where
 inc:z0Kb v.keys
 lt:∀m∈v.keys,m.id<v.next
 pos:∀m∈v.keys,0<m.id
 one:1≤v.next
theorem z8pb {l l':List z3e} {i:Int} (h:z09a l i=some l'):l'.Sublist l:=by
 unfold z09a at h
 split at h
 ·rw[←Option.some.inj h];exact List.eraseIdx_sublist l _
 ·cases h
theorem z8ga:∀{is:List Int} {l l':List z3e},z6U is l=some l'→l'.Sublist l
 |[],l,l',h=>by rw[←Option.some.inj h];exact List.Sublist.refl _
 |i::is,l,l',h=>by
  rw[z6U] at h
  cases hd:z09a l i with
  |none=>rw[hd] at h;cases h
  |some l1=>
   rw[hd] at h
   exact(z8ga h).trans (z8pb hd)
theorem z2yc {l l':List z3e} {i:Int} (hi:z0Kb l) (h:z09a l i=some l'):∀m∈l',m.id≠i:=by
 induction l generalizing l' with
 |nil=>simp[z09a,z93] at h
 |cons a l ih=>
  obtain⟨s1,s2⟩:=List.pairwise_cons.1 hi
  unfold z09a z93 at h
  rw[List.findIdx_cons] at h
  by_cases ha:a.id=i
  ·simp[ha] at h
   subst h
   intro m hm he
   have:=s1 m hm
   omega
  ·simp[ha] at h
   obtain⟨h1,rfl⟩:=h
   intro m hm
   rcases List.mem_cons.1 hm with rfl|hm
   ·exact ha
   ·exact ih s2 (by unfold z09a z93;rw[if_pos (by simpa using h1)]) m hm
theorem z1ob:∀{is:List Int} {l l':List z3e},z0Kb l→z6U is l=some l'→∀i∈is,∀m∈l',m.id≠i
 |[],_,_,_,_=>fun i hi=>by cases hi
 |i::is,l,l',hi,h=>by
  rw[z6U] at h
  cases hd:z09a l i with
  |none=>rw[hd] at h;cases h
  |some l1=>
   rw[hd] at h
   intro j hj m hm
   rcases List.mem_cons.1 hj with rfl|hj
   ·exact z2yc hi hd m ((z8ga h).subset hm)
   ·exact z1ob (List.Pairwise.sublist (z8pb hd) hi) h j hj m hm
theorem z2cb {l:List z3e} {i:Int} (h:z93 l i<l.length):(l.getD (z93 l i) z7sc).id=i:=by
 have h':decide ((l[z93 l i]).id=i)=true:=List.findIdx_getElem (p:=fun m:z3e=>decide (m.id=i)) (xs:=l) (w:=h)
 rw[List.getD,List.getElem?_eq_getElem h]
 exact of_decide_eq_true h'
theorem z2eb {x:z9o} {l l':List z3e} (h:z0qa x l=some l'):l'.map (·.id)=l.map (·.id):=by
 unfold z0qa at h
 split at h
 ·split at h
  ·rename_i h1 h2
   rw[←Option.some.inj h,List.map_set]
   apply List.ext_getElem?
   intro j
   rw[List.getElem?_set]
   split
   ·rename_i e
    subst e
    rw[if_pos (by simpa using h2),List.getElem?_map,List.getElem?_eq_getElem h2,List.getD,List.getElem?_eq_getElem h2];rfl
   ·rfl
  ·cases h
 ·rw[←Option.some.inj h]
theorem z4pb {x:z9o} {l l':List z3e} (h:z0qa x l=some l') {m:z3e} (hm:m∈l'):m∈l∨(x.kind=13∧∃o∈l,o.id=x.cmd.key∧m=z0Jb o):=by
 unfold z0qa at h
 split at h
 ·rename_i h1
  split at h
  ·rename_i h2
   rw[←Option.some.inj h] at hm
   rcases List.mem_or_eq_of_mem_set hm with hm|rfl
   ·exact .inl hm
   ·refine .inr ⟨h1,_,?_,z2cb h2,rfl⟩
    rw[List.getD,List.getElem?_eq_getElem h2]
    exact List.getElem_mem h2
  ·cases h
 ·rw[←Option.some.inj h] at hm;exact .inl hm
theorem z7Wa {l:List z3e}:z0Kb l↔(l.map (·.id)).Pairwise (· <·):=by rw[List.pairwise_map];rfl
theorem z81a:∀{l:List z3e} {n:Int},z0Za l n=true→z0Kb l∧∀m∈l,n≤m.id∧m.id<n+l.length
 |[],n,_=>⟨List.Pairwise.nil,fun m h=>by cases h⟩
 |a::l,n,h=>by
  simp only[z0Za,Bool.and_eq_true,beq_iff_eq] at h
  obtain⟨h1,h2⟩:=h
  obtain⟨i1,i2⟩:=z81a h2
  refine⟨List.pairwise_cons.2 ⟨fun m hm=>by have:=(i2 m hm).1;omega,i1⟩,fun m hm=> ?_⟩
  rw[List.length_cons]
  rcases List.mem_cons.1 hm with rfl|hm
  ·omega
  ·have:=i2 m hm;omega
structure AppP (v:z7i) (x:z9o) (w:z7i):Prop where
 next:w.next=v.next+x.made.length
 time:v.time≤w.time
 ents:w.ents=v.ents+1
 mode:w.mode=x.mode
 inv:z5Xa w
 from':∀m∈w.keys,m∈v.keys∨(x.kind=13∧∃o∈v.keys,o.id=x.cmd.key∧m=z0Jb o)∨m∈x.made
 gone:∀i∈x.gone,∀m∈w.keys,m.id=i→v.next≤m.id
theorem appP {v:z7i} {x:z9o} (hv:z5Xa v) (h:(z7ea v x).e=0):okE x=true∧AppP v x (z7ea v x).v:=by
 unfold z7ea at h⊢
 by_cases h1:okE x=true
 ·rw[if_pos h1] at h⊢
  by_cases h2:x.time<v.time
  ·rw[if_pos h2] at h;cases h
  ·rw[if_neg h2] at h⊢
   cases hg:z6U x.gone v.keys with
   |none=>rw[hg] at h;cases h
   |some l=>
    cases hr:z0qa x l with
    |none=>rw[hg] at h;simp only[Option.bind_some,hr] at h;cases h
    |some l2=>
     rw[hg] at h
     simp only[Option.bind_some,hr] at h⊢
     by_cases h3:z0Za x.made v.next=true
     ·rw[if_pos h3] at h⊢
      by_cases h4:z0na<v.next+x.made.length
      ·rw[if_pos h4] at h;cases h
      ·rw[if_neg h4]
       obtain⟨i1,i2⟩:=z81a h3
       have hsub:=z8ga hg
       have hids:=z2eb hr
       have hmem:∀m∈l2,∃o∈v.keys,o.id=m.id:=fun m hm=>by
        have h5:m.id∈l.map (·.id):=by rw[←hids];exact List.mem_map_of_mem hm
        obtain⟨o,ho,he⟩:=List.mem_map.1 h5
        exact⟨o,hsub.subset ho,he⟩
       have hone:=hv.one
       refine⟨h1,rfl,by show v.time≤x.time;omega,rfl,rfl,⟨?_,?_,?_,by show 1≤v.next+x.made.length;omega⟩,?_,?_⟩
       ·show z0Kb (l2++x.made)
        rw[z7Wa,List.map_append,List.pairwise_append,hids]
        refine⟨z7Wa.1 (List.Pairwise.sublist hsub hv.inc),z7Wa.1 i1,fun a ha b hb=> ?_⟩
        obtain⟨o,ho,rfl⟩:=List.mem_map.1 ha
        obtain⟨q,hq,rfl⟩:=List.mem_map.1 hb
        have:=hv.lt o (hsub.subset ho)
        have:=(i2 q hq).1
        omega
       ·intro m hm
        show m.id<v.next+x.made.length
        rcases List.mem_append.1 hm with hm|hm
        ·obtain⟨o,ho,he⟩:=hmem m hm
         have:=hv.lt o ho;omega
        ·exact(i2 m hm).2
       ·intro m hm
        rcases List.mem_append.1 hm with hm|hm
        ·obtain⟨o,ho,he⟩:=hmem m hm
         have:=hv.pos o ho;omega
        ·have:=(i2 m hm).1;omega
       ·intro m hm
        rcases List.mem_append.1 hm with hm|hm
        ·rcases z4pb hr hm with hm|⟨k1,o,ho,k2,k3⟩
         ·exact .inl (hsub.subset hm)
         ·exact .inr (.inl ⟨k1,o,hsub.subset ho,k2,k3⟩)
        ·exact .inr (.inr hm)
       ·intro i hi m hm he
        rcases List.mem_append.1 hm with hm|hm
        ·exfalso
         have h5:m.id∈l.map (·.id):=by rw[←hids];exact List.mem_map_of_mem hm
         obtain⟨o,ho,he'⟩:=List.mem_map.1 h5
         exact z1ob hv.inc hg i hi o ho (by omega)
        ·exact(i2 m hm).1
     ·rw[if_neg h3] at h;cases h
 ·rw[if_neg h1] at h;cases h
end Go.Abs
end

section
namespace Go.Abs
/-! ### Lists of values of one width -/
def gLw {α:Type} (w:Nat) (g:List z2a→α) (n:Nat) (cs:List z2a):List α:=(List.range n).map fun i=>g ((cs.drop (i*w)).take w)
theorem z5aa {α:Type} {w:Nat} {enc:α→List z2a} {P:α→Prop} (h1:∀a,P a→(enc a).length=w):∀(l:List α) (i:Nat),(∀a∈l,P a)→(l.flatMap enc).drop (i*w)=(l.drop i).flatMap enc
 |[],i,_=>by simp
 |a::l,0,_=>by simp
 |a::l,i+1,h=>by
  rw[List.drop_succ_cons,←z5aa h1 l i (fun b hb=>h b (by simp[hb])),List.flatMap_cons,show(i+1)*w=(enc a).length+i*w by rw[h1 a (h a (by simp)),Nat.succ_mul,Nat.add_comm],←List.drop_drop,List.drop_left]
theorem z8wc {α:Type} {w:Nat} {g:List z2a→α} {enc:α→List z2a} {P:α→Prop} (h1:∀a,P a→(enc a).length=w) (h2:∀a,P a→g (enc a)=a) (l:List α) (h:∀a∈l,P a):gLw w g l.length (l.flatMap enc)=l:=by
 apply List.ext_getElem
 ·simp[gLw]
 ·intro i a1 a2
  simp only[gLw,List.getElem_map,List.getElem_range]
  have hm:=h _ (List.getElem_mem a2)
  rw[z5aa h1 l i h,List.drop_eq_getElem_cons a2,List.flatMap_cons,←h1 _ hm,List.take_left,h2 _ hm]
def z1nb (l:List z2a):z3e:=⟨asI (nth l 0),asI (nth l 1),asI (nth l 2),asI (nth l 3),asI (nth l 4),asI (nth l 5),asI (nth l 6),asB (nth l 7),gBs (l.drop 8)⟩
theorem z48 (m:z3e):z1nb (z2n m)=m:=by
 simp[z1nb,z2n,nth]
theorem z8k {m:z3e} (h:m.dig.length=16):(z2n m).length=24:=by simp[z2n,h]
def z7Y (n:Nat) (cs:List z2a):List z3e:=gLw 24 z1nb n cs
def z5Ea (m:z3e):Prop:=m.dig.length=16
theorem z2I {l:List z3e} (h:∀m∈l,z5Ea m):z7Y l.length (z6b l)=l:=z8wc (enc:=z2n) (P:=z5Ea) (fun a ha=>z8k ha) (fun a _=>z48 a) l h
def gNn (d:z2a):Nat:=match d with| .sl _ _ n _=>n|_=>0
def z8Ma (l:List z2a):z9o:=⟨asI (nth l 0),asI (nth l 1),asI (nth l 2),asI (nth l 3),z1Ha (l.drop 4),gBs ((l.drop 12).take 16),z7Y (gNn (nth l 28)) (gCs (nth l 28)),gIs (gCs (nth l 29))⟩
theorem z4Pa {nc nm ng:Option Bool} {x:z9o} (hd:x.dig.length=16) (hm:∀m∈x.made,z5Ea m):z8Ma (z5l nc nm ng x)=x:=by
 have e1:(z5l nc nm ng x).drop 4=z1q x.cmd nc++(bys x.dig++[.sl .plain nm x.made.length (z6b x.made),.sl .plain ng x.gone.length (z4j x.gone)]):=by simp[z5l]
 have e2:(z5l nc nm ng x).drop 12=bys x.dig++[.sl .plain nm x.made.length (z6b x.made),.sl .plain ng x.gone.length (z4j x.gone)]:=by
  rw[show 12=4+8 by rfl,←List.drop_drop,e1];rfl
 have e3:(z5l nc nm ng x).drop 28=[.sl .plain nm x.made.length (z6b x.made),.sl .plain ng x.gone.length (z4j x.gone)]:=by
  rw[show 28=12+16 by rfl,←List.drop_drop,e2,List.drop_left' (by simp[hd])]
 have e4:nth (z5l nc nm ng x) 28= .sl .plain nm x.made.length (z6b x.made):=by
  have:=congrArg (fun l=>nth l 0) e3
  simpa[nth] using this
 have e5:nth (z5l nc nm ng x) 29= .sl .plain ng x.gone.length (z4j x.gone):=by
  have:=congrArg (fun l=>nth l 1) e3
  simpa[nth] using this
 have e6:∀r,z1Ha (z1q x.cmd nc++r)=x.cmd:=fun r=>z8qa x.cmd nc
 rw[z8Ma,e4,e5,e1,e2,e6,List.take_left' (by simp[hd])]
 simp only[gNn,gCs,z2I hm]
 simp[z5l,nth]
end Go.Abs
end

section
namespace Go.Abs
def z3d (nk:Option Bool) (v:z7i):List z2a:=[i64 v.time,i64 v.mode,i64 v.ents,i64 v.next,.sl .plain nk v.keys.length (z6b v.keys)]
def z8ab (l:List z2a):z7i:=⟨asI (nth l 0),asI (nth l 1),asI (nth l 2),asI (nth l 3),z7Y (gNn (nth l 4)) (gCs (nth l 4))⟩
theorem z4fb {nk:Option Bool} {v:z7i} (h:∀m∈v.keys,z5Ea m):z8ab (z3d nk v)=v:=by
 simp only[z8ab,z3d,nth,List.getD_cons_zero,List.getD_cons_succ,gNn,gCs,z2I h]
 simp
def z6Dc (nl:Option Bool) (l:List z3e):z2a:= .sl .plain nl l.length (z6b l)
def z5d (l:List z3e):Prop:=∀m∈l,m.ok
theorem z2c {l:List z3e} (h:z5d l):∀m∈l,z5Ea m:=fun m hm=>(h m hm).2.2.2.2.2.2.2
theorem z9d {l:List z3e} (h:∀m∈l,z5Ea m):(z6b l).length=l.length*24:=by
 induction l with
 |nil=>rfl
 |cons a l ih=>
  have:=ih fun m hm=>h m (by simp[hm])
  rw[z6b] at this⊢
  rw[List.flatMap_cons,List.length_append,this,z8k (h a (by simp)),List.length_cons];omega
theorem z8d {nc nm ng:Option Bool} {x:z9o} (h:x.dig.length=16):(z5l nc nm ng x).length=30:=by simp[z5l,z1q,h]
/-! ### Small parts -/
def z4Ib:z5a:=⟨fun ds=>∃n lo hi:Int,ds=[i64 n,i64 lo,i64 hi],fun ds=>bo (inR (asI (nth ds 0)) (asI (nth ds 1)) (asI (nth ds 2)))⟩
@[simp] theorem z1Ra (n lo hi:Int):z4Ib.pre [i64 n,i64 lo,i64 hi]=True:=eq_true ⟨n,lo,hi,rfl⟩
@[simp] theorem z7oa (n lo hi:Int):z4Ib.post [i64 n,i64 lo,i64 hi]=bo (inR n lo hi):=rfl
def z3Pb:z5a:=⟨fun ds=>∃k:Int,ds=[i64 k],fun ds=>bo (z5Pb (asI (nth ds 0)))⟩
@[simp] theorem z7Zc (k:Int):z3Pb.pre [i64 k]=True:=eq_true ⟨k,rfl⟩
@[simp] theorem z1Fb (k:Int):z3Pb.post [i64 k]=bo (z5Pb k):=rfl
def z1ja:z5a:=⟨fun ds=>∃(c:Cmd) (nl:Option Bool),c.small∧ds=[.agg (z1q c nl)],fun ds=> .agg (z1q (z7Gb (z1Ha (gCs (nth ds 0)))) none)⟩
theorem z9Da {c:Cmd} {nl:Option Bool} (h:c.small):z1ja.pre [.agg (z1q c nl)]=True:=eq_true ⟨c,nl,h,rfl⟩
theorem z3qa (c:Cmd) (nl:Option Bool):z1ja.post [.agg (z1q c nl)]= .agg (z1q (z7Gb c) none):=by
 show z2a.agg (z1q (z7Gb (z1Ha (z1q c nl))) none)=_
 rw[z8qa]
def mkE (now:Int) (c:Cmd) (req mode:Int) (made:List z3e) (gone:List Int):z9o:=⟨now,c.kind,req,mode,z7Gb c,z5G 7 [z4Z c],made,gone⟩
def z2Hb:z5a:=⟨fun ds=>∃(now req mode:Int) (c:Cmd) (nc nm ng:Option Bool) (made:List z3e) (gone:List Int),c.small∧z5d made∧made.length≤1000000∧gone.length≤1000000∧ds=[i64 now,.agg (z1q c nc),i64 req,i64 mode,z6Dc nm made,.sl .plain ng gone.length (z4j gone)],
 fun ds=> .agg (z5l none none none (mkE (asI (nth ds 0)) (z1Ha (gCs (nth ds 1))) (asI (nth ds 2)) (asI (nth ds 3)) (z7Y (gNn (nth ds 4)) (gCs (nth ds 4))) (gIs (gCs (nth ds 5)))))⟩
theorem z8Ub {now req mode:Int} {c:Cmd} {nc nm ng:Option Bool} {made:List z3e} {gone:List Int} (h:c.small) (hm:z5d made) (h1:made.length≤1000000) (h2:gone.length≤1000000):z2Hb.pre [i64 now,.agg (z1q c nc),i64 req,i64 mode,.sl .plain nm made.length (z6b made),.sl .plain ng gone.length (z4j gone)]=True:=eq_true ⟨now,req,mode,c,nc,nm,ng,made,gone,h,hm,h1,h2,rfl⟩
theorem z82a {now req mode:Int} {c:Cmd} {nc nm ng:Option Bool} {made:List z3e} {gone:List Int} (hm:z5d made) (n:Nat):z2Hb.post [i64 now,.agg (z1q c nc),i64 req,i64 mode,.sl .plain nm made.length (z6b made),.sl .plain ng n (z4j gone)]= .agg (z5l none none none (mkE now c req mode made gone)):=by
 show z2a.agg (z5l none none none (mkE now (z1Ha (z1q c nc)) req mode (z7Y made.length (z6b made)) (gIs (z4j gone))))=_
 rw[z8qa,z2I (z2c hm),z72a]
def z5Lb:z5a:=⟨fun ds=>∃t m:Int,ds=[i64 t,i64 m],fun ds=> .agg (z5l none none none (z9Ha (asI (nth ds 0)) (asI (nth ds 1))))⟩
@[simp] theorem z3bd (t m:Int):z5Lb.pre [i64 t,i64 m]=True:=eq_true ⟨t,m,rfl⟩
@[simp] theorem z6ub (t m:Int):z5Lb.post [i64 t,i64 m]= .agg (z5l none none none (z9Ha t m)):=rfl
/-! ### Entries -/
def z0qb (ds:List z2a):Prop:=∃(nc nm ng:Option Bool) (x:z9o),x.small∧ds=[.agg (z5l nc nm ng x)]
theorem z85a {nc nm ng:Option Bool} {x:z9o} (h:x.small):z8Ma (z5l nc nm ng x)=x:=z4Pa h.1.2.2.2.2.2.1 (z2c h.1.2.2.2.2.2.2.1)
def z3Jb:z5a:=⟨z0qb,fun ds=>bo (okE (z8Ma (gCs (nth ds 0))))⟩
theorem z5Ta {nc nm ng:Option Bool} {x:z9o} (h:x.small):z3Jb.pre [.agg (z5l nc nm ng x)]=True:=eq_true ⟨nc,nm,ng,x,h,rfl⟩
theorem z5pa {nc nm ng:Option Bool} {x:z9o} (h:x.small):z3Jb.post [.agg (z5l nc nm ng x)]=bo (okE x):=by
 show bo (okE (z8Ma (z5l nc nm ng x)))=_
 rw[z85a h]
def z6La:z5a:=⟨z0qb,fun ds=>st (z6Aa (z8Ma (gCs (nth ds 0))))⟩
theorem z41a {nc nm ng:Option Bool} {x:z9o} (h:x.small):z6La.pre [.agg (z5l nc nm ng x)]=True:=eq_true ⟨nc,nm,ng,x,h,rfl⟩
theorem z7qa {nc nm ng:Option Bool} {x:z9o} (h:x.small):z6La.post [.agg (z5l nc nm ng x)]=st (z6Aa x):=by
 show st (z6Aa (z8Ma (z5l nc nm ng x)))=_
 rw[z85a h]
def z4Ua:z5a:=⟨z0qb,fun ds=> .agg (bys (z5G 8 [z6Aa (z8Ma (gCs (nth ds 0)))]))⟩
theorem z20a {nc nm ng:Option Bool} {x:z9o} (h:x.small):z4Ua.pre [.agg (z5l nc nm ng x)]=True:=eq_true ⟨nc,nm,ng,x,h,rfl⟩
theorem z2ua {nc nm ng:Option Bool} {x:z9o} (h:x.small):z4Ua.post [.agg (z5l nc nm ng x)]= .agg (bys (z5G 8 [z6Aa x])):=by
 show z2a.agg (bys (z5G 8 [z6Aa (z8Ma (z5l nc nm ng x))]))=_
 rw[z85a h]
def z2Pa:z5a:=⟨fun ds=>∃(nc nm ng nc' nm' ng':Option Bool) (x y:z9o),x.small∧y.small∧ds=[.agg (z5l nc nm ng x),.agg (z5l nc' nm' ng' y)],fun ds=>bo (z3da (z8Ma (gCs (nth ds 0))) (z8Ma (gCs (nth ds 1))))⟩
theorem z80a {nc nm ng nc' nm' ng':Option Bool} {x y:z9o} (h:x.small) (h':y.small):z2Pa.pre [.agg (z5l nc nm ng x),.agg (z5l nc' nm' ng' y)]=True:=eq_true ⟨nc,nm,ng,nc',nm',ng',x,y,h,h',rfl⟩
theorem z4ra {nc nm ng nc' nm' ng':Option Bool} {x y:z9o} (h:x.small) (h':y.small):z2Pa.post [.agg (z5l nc nm ng x),.agg (z5l nc' nm' ng' y)]=bo (z3da x y):=by
 show bo (z3da (z8Ma (z5l nc nm ng x)) (z8Ma (z5l nc' nm' ng' y)))=_
 rw[z85a h,z85a h']
/-! ### Views -/
def vOk (v:z7i):Prop:=z5d v.keys∧v.keys.length≤1000000∧z2l v.time∧(0≤v.ents∧v.ents≤1000000)∧(0≤v.next∧v.next≤z0na)
def z9Kb:z5a:=⟨fun ds=>ds=[],fun _=> .agg (z3d none z4xa)⟩
@[simp] theorem z59c:z9Kb.pre []=True:=eq_true rfl
@[simp] theorem z5Db (ds:List z2a):z9Kb.post ds= .agg (z3d none z4xa):=rfl
def z4Nb:z5a:=⟨fun ds=>∃(nk nc nm ng:Option Bool) (v:z7i) (x:z9o),vOk v∧x.small∧ds=[.agg (z3d nk v),.agg (z5l nc nm ng x)],
 fun ds=>let r:=z7ea (z8ab (gCs (nth ds 0))) (z8Ma (gCs (nth ds 1)));.tup [.agg (z3d none r.v),i64 r.e]⟩
theorem z9ra {nk nc nm ng:Option Bool} {v:z7i} {x:z9o} (h:vOk v) (hx:x.small):z4Nb.pre [.agg (z3d nk v),.agg (z5l nc nm ng x)]=True:=eq_true ⟨nk,nc,nm,ng,v,x,h,hx,rfl⟩
theorem z7aa {nk nc nm ng:Option Bool} {v:z7i} {x:z9o} (h:vOk v) (hx:x.small):z4Nb.post [.agg (z3d nk v),.agg (z5l nc nm ng x)]= .tup [.agg (z3d none (z7ea v x).v),i64 (z7ea v x).e]:=by
 show(let r:=z7ea (z8ab (z3d nk v)) (z8Ma (z5l nc nm ng x));z2a.tup [.agg (z3d none r.v),i64 r.e])=_
 rw[z4fb (z2c h.1),z85a hx]
def z33b:z5a:=⟨fun ds=>∃(nk:Option Bool) (v:z7i) (now:Int),z5d v.keys∧v.keys.length≤1000000∧ds=[.agg (z3d nk v),i64 now],fun ds=>let l:=z2Sa (z8ab (gCs (nth ds 0))) (asI (nth ds 1));.sl (.own 24) none l.length (z6b l)⟩
theorem z9ib {nk:Option Bool} {v:z7i} (now:Int) (h:z5d v.keys) (h1:v.keys.length≤1000000):z33b.pre [.agg (z3d nk v),i64 now]=True:=eq_true ⟨nk,v,now,h,h1,rfl⟩
theorem z6Fa {nk:Option Bool} {v:z7i} (now:Int) (h:z5d v.keys):z33b.post [.agg (z3d nk v),i64 now]= .sl (.own 24) none (z2Sa v now).length (z6b (z2Sa v now)):=by
 show(let l:=z2Sa (z8ab (z3d nk v)) now;z2a.sl (.own 24) none l.length (z6b l))=_
 rw[z4fb (z2c h)]
end Go.Abs
end

section
namespace Go.Abs
theorem z1u (a x:z2a) (l xs:List z2a):splice (a::l) 0 (x::xs)=x::splice l 0 xs:=by simp[splice]
theorem z7t (l:List z2a):splice l 0 []=l:=by simp[splice]
theorem z8I {a b:List UInt8} (h:b.length=a.length) (r s:List z2a):splice (bys a++r) 0 (bys b++s)=bys b++splice r 0 s:=by
 have h1:(bys b).length=(bys a).length:=by simpa using h
 simp only[splice,List.take_zero,List.nil_append,Nat.zero_add,List.length_append,h1,←List.drop_drop,List.drop_left,List.append_assoc]
theorem z68 {a b:List UInt8} (h:b.length=a.length) (r:List z2a):splice (bys a++r) 0 (bys b)=bys b++r:=by
 have h1:(bys b).length=(bys a).length:=by simpa using h
 simp only[splice,List.take_zero,List.nil_append,Nat.zero_add,h1,List.drop_left]
theorem z3Cc {a b:List UInt8} (h:b.length=a.length):splice (bys a) 0 (bys b)=bys b:=by
 have:=z68 h []
 simpa using this
theorem z4ib {a:List UInt8} (h:a.length=16) (r:List z2a) (n:Nat) (xs:List z2a):splice (bys a++r) (16+n) xs=bys a++splice r n xs:=by
 rw[z9N (by simp[h])]
 simp[h]
theorem z2ga {a:List UInt8} (h:a.length=16) (x y z:z2a):splice (bys a++[x,y]) 16 [z]=bys a++[z,y]:=by
 have:=z4ib h [x,y] 0 [z]
 simpa using this
theorem z6ha {a:List UInt8} (h:a.length=16) (x y z:z2a):splice (bys a++[x,y]) 17 [z]=bys a++[x,z]:=by
 have:=z4ib h [x,y] 1 [z]
 simpa using this
theorem tk_b {d:List UInt8} (h:d.length=16) (r:List z2a):(bys d++r).take 16=bys d:=by
 rw[List.take_append_of_le_length (by simp[h]),List.take_of_length_le (by simp[h])]
theorem z6va {d:List UInt8} (h:d.length=16) (x y:z2a):(bys d++[x,y]).take 18=bys d++[x,y]:=List.take_of_length_le (by simp[h])
theorem z6Gc {d:List UInt8} (h:d.length=16):(bys d).take 16=bys d:=List.take_of_length_le (by simp[h])
theorem z2rb {d:List UInt8} (h:d.length=16) (r:List z2a):(bys d++r).drop 16=r:=List.drop_left' (by simp[h])
theorem z0Pa {d:List UInt8} (h:d.length=16) (x y:z2a):(bys d++[x,y]).drop 17=[y]:=by
 rw[show 17=16+1 by rfl,←List.drop_drop,z2rb h];rfl
theorem z95 (l:List UInt8):(∀c∈bys l,z2d c)=True:=eq_true fun c hc=>by
 simp only[bys,List.mem_map] at hc
 obtain⟨x,_,rfl⟩:=hc
 trivial
theorem z4oa (l:List UInt8):(∀c∈bys l,z1f c=false)=True:=eq_true fun c hc=>by
 simp only[bys,List.mem_map] at hc
 obtain⟨x,_,rfl⟩:=hc
 rfl
@[simp] theorem z5cc (l:List z3e):z2h (z6b l)=true:=by
 refine(z5m _).2 fun c hc=> ?_
 obtain⟨m,_,h⟩:=List.mem_flatMap.1 hc
 rcases List.mem_append.1 h with h|h
 ·simp only[List.mem_cons,List.not_mem_nil,or_false] at h
  rcases h with rfl|rfl|rfl|rfl|rfl|rfl|rfl|rfl<;>rfl
 ·simp only[bys,List.mem_map] at h
  obtain⟨x,_,rfl⟩:=h
  rfl
theorem z5W {m:z3e}:∀c∈z2n m,z6f c=true∧z2d c:=by
 intro c hc
 rcases List.mem_append.1 hc with h|h
 ·simp only[List.mem_cons,List.not_mem_nil,or_false] at h
  rcases h with rfl|rfl|rfl|rfl|rfl|rfl|rfl|rfl<;>exact⟨rfl,trivial⟩
 ·simp only[bys,List.mem_map] at h
  obtain⟨x,_,rfl⟩:=h
  exact⟨rfl,trivial⟩
theorem z4ob {l:List z3e}:∀c∈z6b l,z6f c=true∧z2d c:=by
 intro c hc
 obtain⟨m,_,h⟩:=List.mem_flatMap.1 hc
 exact z5W c h
@[simp] theorem z9Ka (nc nm ng:Option Bool) (x:z9o):z2h (z5l nc nm ng x)=true:=by simp[z5l,z1q]
/-! ### an entry's cells, by name -/
@[simp] theorem ent_0 (nc nm ng:Option Bool) (x:z9o):hdA (z5l nc nm ng x)=i64 x.time:=rfl
@[simp] theorem ent_1 (nc nm ng:Option Bool) (x:z9o):hdA ((z5l nc nm ng x).drop 1)=i64 x.kind:=rfl
@[simp] theorem ent_1t (nc nm ng:Option Bool) (x:z9o):hdA (z5l nc nm ng x).tail=i64 x.kind:=rfl
@[simp] theorem ent_2 (nc nm ng:Option Bool) (x:z9o):hdA ((z5l nc nm ng x).drop 2)=i64 x.req:=rfl
@[simp] theorem ent_3 (nc nm ng:Option Bool) (x:z9o):hdA ((z5l nc nm ng x).drop 3)=i64 x.mode:=rfl
@[simp] theorem ent_4 (nc nm ng:Option Bool) (x:z9o):hdA ((z5l nc nm ng x).drop 4)=i64 x.cmd.kind:=rfl
@[simp] theorem ent_5 (nc nm ng:Option Bool) (x:z9o):hdA ((z5l nc nm ng x).drop 5)=i64 x.cmd.key:=rfl
@[simp] theorem ent_10 (nc nm ng:Option Bool) (x:z9o):hdA ((z5l nc nm ng x).drop 10)=st x.cmd.data:=rfl
@[simp] theorem z37c (nc nm ng:Option Bool) (x:z9o):((z5l nc nm ng x).drop 4).take 8=z1q x.cmd nc:=rfl
theorem z3lb (nc nm ng:Option Bool) (x:z9o):(z5l nc nm ng x).drop 12=bys x.dig++[.sl .plain nm x.made.length (z6b x.made),.sl .plain ng x.gone.length (z4j x.gone)]:=by
 rw[show z5l nc nm ng x=([i64 x.time,i64 x.kind,i64 x.req,i64 x.mode]++z1q x.cmd nc)++(bys x.dig++[.sl .plain nm x.made.length (z6b x.made),.sl .plain ng x.gone.length (z4j x.gone)]) by simp[z5l]]
 exact List.drop_left' rfl
theorem z8Ca {nc nm ng:Option Bool} {x:z9o} (h:x.dig.length=16):((z5l nc nm ng x).drop 12).take 16=bys x.dig:=by rw[z3lb,tk_b h]
theorem z9gb {nc nm ng:Option Bool} {x:z9o} (h:x.dig.length=16):(z5l nc nm ng x).drop 28=[.sl .plain nm x.made.length (z6b x.made),.sl .plain ng x.gone.length (z4j x.gone)]:=by
 rw[show 28=12+16 by rfl,←List.drop_drop,z3lb,z2rb h]
theorem z1ma {nc nm ng:Option Bool} {x:z9o} (h:x.dig.length=16):hdA ((z5l nc nm ng x).drop 28)= .sl .plain nm x.made.length (z6b x.made):=by rw[z9gb h];rfl
theorem z1na {nc nm ng:Option Bool} {x:z9o} (h:x.dig.length=16):hdA ((z5l nc nm ng x).drop 29)= .sl .plain ng x.gone.length (z4j x.gone):=by
 rw[show 29=28+1 by rfl,←List.drop_drop,z9gb h];rfl
theorem z1r {nc nm ng:Option Bool} {x:z9o} (h:x.dig.length=16):(z5l nc nm ng x).take 30=z5l nc nm ng x:=List.take_of_length_le (by rw[z8d h];exact Nat.le_refl _)
theorem z6mb {nc nm ng:Option Bool} {x:z9o}:∀c∈z5l nc nm ng x,z2d c∧z1f c=false:=by
 intro c hc
 simp only[z5l,z1q,List.mem_append,List.mem_cons,List.not_mem_nil,or_false,bys,List.mem_map] at hc
 rcases hc with(((h|h|h|h)|(h|h|h|h|h|h|h|h))|⟨u,_,h⟩)|(h|h)<;>subst h<;>exact⟨trivial,rfl⟩
@[simp] theorem z7Tc (nc nm ng:Option Bool) (x:z9o):(∀c∈z5l nc nm ng x,z2d c)=True:=eq_true fun c hc=>(z6mb c hc).1
@[simp] theorem z6ad (nc nm ng:Option Bool) (x:z9o):(∀c∈z5l nc nm ng x,z1f c=false)=True:=eq_true fun c hc=>(z6mb c hc).2
@[simp] theorem z3gc (l:List z3e):z7g (z6b l)=[]:=by
 induction l with
 |nil=>rfl
 |cons a l ih=>
  rw[z6b] at ih⊢
  rw[List.flatMap_cons,z2E,ih]
  simp[z2n,z7g]
@[simp] theorem z2xc (nc nm ng:Option Bool) (x:z9o):z7g (z5l nc nm ng x)=[]:=by simp[z5l,z1q,z7g]
theorem z4n {nc nm ng:Option Bool} {x:z9o} (h:x.dig.length=16) {zs:List z2a} (hz:zs.length=30):splice zs 0 (z5l nc nm ng x)=z5l nc nm ng x:=z8f (by rw[z8d h,hz])
@[simp] theorem z6Jc:z9hc.length=16:=rfl
end Go.Abs
end

section
namespace Go.Abs
set_option maxRecDepth 100000
theorem z3Bc (E:Env):∀ds,z4Ib.pre ds→ds.length=z6k.n∧awp E z6k.body (z1A z6k.res (z4Ib.post ds)) (z9c z6k.wr ds):=by
 rintro _ ⟨n,lo,hi,rfl⟩
 rw[z7oa]
 by_cases h1:lo≤n
 ·by_cases h2:n≤hi
  ·simp(maxSteps:=1000000) (disch:=first|omega|(simp;done)|(simp;omega)) [z9a,z1a,z0a,z6k,inR,h1,h2]
  ·simp(maxSteps:=1000000) (disch:=first|omega|(simp;done)|(simp;omega)) [z9a,z1a,z0a,z6k,inR,h1,h2]
 ·simp(maxSteps:=1000000) (disch:=first|omega|(simp;done)|(simp;omega)) [z9a,z1a,z0a,z6k,inR,h1]
/-! ### a number in a list -/
def z7zb (l:List Int) (x:Int):Nat:=l.findIdx fun y=>decide (y=x)
def z2Rb (l:List Int) (x:Int):Int:=if z7zb l x<l.length then(z7zb l x:Int) else-1
def z0Fa:z5a:=⟨fun ds=>∃(nl:Option Bool) (l:List Int) (x:Int),l.length≤1000000000∧ds=[.sl .plain nl l.length (z4j l),i64 x],fun ds=>i64 (z2Rb (gIs (gCs (nth ds 0))) (asI (nth ds 1)))⟩
theorem z40a {nl:Option Bool} {n:Nat} {l:List Int} {x:Int} (h:l.length≤1000000000) (hn:n=l.length):z0Fa.pre [.sl .plain nl n (z4j l),i64 x]=True:=eq_true ⟨nl,l,x,h,by rw[hn]⟩
theorem z1La (nl:Option Bool) (n:Nat) (l:List Int) (x:Int):z0Fa.post [.sl .plain nl n (z4j l),i64 x]=i64 (z2Rb l x):=by simp[z0Fa,nth]
theorem z73b {l:List Int} {x:Int} {i:Nat} (hi:i<l.length) (h0:∀j<i,atI l j≠x) (h:atI l i=x):z7zb l x=i:=by
 have ha:∀j (hj:j<l.length),atI l j=l[j]:=fun j hj=>by simp[atI,List.getD,List.getElem?_eq_getElem hj]
 apply Nat.le_antisymm
 ·apply Nat.le_of_not_lt
  intro hlt
  have:=List.not_of_lt_findIdx (p:=fun y=>decide (y=x)) (xs:=l) hlt
  rw[ha i hi] at h
  simp[h] at this
 ·apply Nat.le_of_not_lt
  intro hlt
  have hl:z7zb l x<l.length:=by omega
  have h1:decide (l[z7zb l x]=x)=true:=List.findIdx_getElem (p:=fun y=>decide (y=x)) (xs:=l) (w:=hl)
  exact h0 _ hlt (by rw[ha _ hl];exact of_decide_eq_true h1)
theorem z10b {l:List Int} {x:Int} (h0:∀j<l.length,atI l j≠x):z7zb l x=l.length:=by
 apply Nat.le_antisymm (List.findIdx_le_length)
 apply Nat.le_of_not_lt
 intro hl
 have h1:decide (l[z7zb l x]=x)=true:=List.findIdx_getElem (p:=fun y=>decide (y=x)) (xs:=l) (w:=hl)
 exact h0 _ hl (by simp only[atI,List.getD,List.getElem?_eq_getElem hl];exact of_decide_eq_true h1)
theorem z8Sb (E:Env):∀ds,z0Fa.pre ds→ds.length=z8o.n∧awp E z8o.body (z1A z8o.res (z0Fa.post ds)) (z9c z8o.wr ds):=by
 rintro _ ⟨nl,l,x,hl,rfl⟩
 rw[z1La]
 simp(maxSteps:=1000000) (disch:=first|omega|(simp;done)|(simp;omega)) [z9a,z1a,z0a,z8o]
 refine z3a fun Q0 hQ0=> ?_
 refine z4d (fun i:Nat=>⟨[(0,.sl .plain nl l.length (z4j l)),(1,i64 x)],[(7,i64 l.length),(8,i64 i)],[]⟩)
  (fun i=>l.length-i) (fun i=>i≤l.length∧∀j<i,atI l j≠x) 0 (by simp) (by simp) fun i hi=> ?_
 obtain⟨hi,he⟩:=hi
 refine z3a fun Q1 hQ1=> ?_
 by_cases h1:i<l.length
 ·by_cases h2:x=atI l i
  ·have hp:=z73b h1 he h2.symm
   have hR:z2Rb l x=(i:Int):=by rw[z2Rb,hp,if_pos h1]
   simp(maxSteps:=1000000) (disch:=first|omega|(simp;done)|(simp;omega)) [z9a,z1a,z0a,z4z,z2L,kT,kF,dT,dF,z1ea,h1,h2,hQ1,hQ0]
   exact⟨by omega,by rw[←h2,hR]⟩
  ·simp(maxSteps:=1000000) (disch:=first|omega|(simp;done)|(simp;omega)) [z9a,z1a,z0a,z4z,z2L,kT,kF,dT,dF,z1ea,h1,h2,hQ1]
   refine⟨by omega,i+1,by omega,⟨by omega,fun j hj=> ?_⟩,by omega⟩
   ·rcases Nat.lt_or_eq_of_le (Nat.lt_succ_iff.1 hj) with h|h
    ·exact he j h
    ·rw[h];exact fun e=>h2 e.symm
 ·have hl':i=l.length:=by omega
  have hp:=z10b (l:=l) (x:=x) (fun j hj=>he j (by omega))
  have hR:z2Rb l x= -1:=by rw[z2Rb,hp,if_neg (by omega)]
  simp(maxSteps:=1000000) (disch:=first|omega|(simp;done)|(simp;omega)) [z9a,z1a,z0a,z4z,kT,kF,dT,dF,h1,hQ1,hQ0,z70,hR]
def z6xa:z5a:=⟨z0Fa.pre,fun ds=>bo (decide (asI (nth ds 1)∈gIs (gCs (nth ds 0))))⟩
theorem z5wb {nl:Option Bool} {n:Nat} {l:List Int} {x:Int} (h:l.length≤1000000000) (hn:n=l.length):z6xa.pre [.sl .plain nl n (z4j l),i64 x]=True:=z40a h hn
theorem z6Na (nl:Option Bool) (n:Nat) (l:List Int) (x:Int):z6xa.post [.sl .plain nl n (z4j l),i64 x]=bo (decide (x∈l)):=by simp[z6xa,nth]
theorem z5Ib (l:List Int) (x:Int):decide (0≤z2Rb l x)=decide (x∈l):=by
 have:z7zb l x<l.length↔x∈l:=by
  rw[z7zb,List.findIdx_lt_length]
  simp
 unfold z2Rb
 by_cases h:x∈l
 ·rw[if_pos (this.2 h)];simp[h]
 ·rw[if_neg (fun e=>h (this.1 e))];simp[h]
theorem z54b (E:Env) (h314:E.G 314=z0Fa):∀ds,z6xa.pre ds→ds.length=z7j.n∧awp E z7j.body (z1A z7j.res (z6xa.post ds)) (z9c z7j.wr ds):=by
 rintro _ ⟨nl,l,x,hl,rfl⟩
 rw[z6Na,←z5Ib]
 simp(maxSteps:=1000000) (disch:=first|omega|(simp;done)|(simp;omega)) [z9a,z1a,z0a,z7j,h314,z40a,z1La]
theorem z3wc (E:Env) (h312:E.G 312=z6xa):∀ds,z3Pb.pre ds→ds.length=z5o.n∧awp E z5o.body (z1A z5o.res (z3Pb.post ds)) (z9c z5o.wr ds):=by
 rintro _ ⟨k,rfl⟩
 rw[z1Fb]
 have hp:z6xa.pre [.sl .plain (some false) 8 [i64 2,i64 4,i64 5,i64 6,i64 8,i64 10,i64 15,i64 19],i64 k]=True:=z5wb (l:=[2,4,5,6,8,10,15,19]) (by simp) rfl
 have hq:z6xa.post [.sl .plain (some false) 8 [i64 2,i64 4,i64 5,i64 6,i64 8,i64 10,i64 15,i64 19],i64 k]=bo (z5Pb k):=z6Na (some false) 8 [2,4,5,6,8,10,15,19] k
 simp(maxSteps:=1000000) (disch:=first|omega|(simp;done)|(simp;omega)) [z9a,z1a,z0a,z5o,h312,hp,hq]
/-! ### copies -/
def z1oa:z5a:=⟨fun ds=>∃(nl:Option Bool) (l:List Int),l.length≤1000000000∧ds=[.sl .plain nl l.length (z4j l)],fun ds=> .sl (.own 1) none (gNn (nth ds 0)) (z4j (gIs (gCs (nth ds 0))))⟩
theorem z7Ca {nl:Option Bool} {n:Nat} {l:List Int} (h:l.length≤1000000000) (hn:n=l.length):z1oa.pre [.sl .plain nl n (z4j l)]=True:=eq_true ⟨nl,l,h,by rw[hn]⟩
theorem z5ha (nl:Option Bool) (n:Nat) (l:List Int):z1oa.post [.sl .plain nl n (z4j l)]= .sl (.own 1) none n (z4j l):=by
 show z2a.sl (.own 1) none n (z4j (gIs (z4j l)))=_
 rw[z72a]
def z0yb:z5a:=⟨fun ds=>z1oa.pre ds∧∀d,ds[0]? =some d→z2Ea d,z1oa.post⟩
theorem z01b (E:Env):∀ds,z0yb.pre ds→ds.length=z6h.n∧awp E z6h.body (z1A z6h.res (z0yb.post ds)) (z9c z6h.wr ds):=by
 rintro _ ⟨⟨nl,l,hn,rfl⟩,hk⟩
 have hk:=hk _ rfl
 rw[show z0yb.post [.sl .plain nl l.length (z4j l)]= .sl (.own 1) none l.length (z4j l) from z5ha nl _ l]
 match nl,hk with
 |some true,hk=>
  have h0:l=[]:=List.length_eq_zero_iff.1 hk.1
  subst h0
  simp(maxSteps:=1000000) (disch:=first|omega|(simp;done)|(simp;omega)) [z9a,z1a,z0a,z6h,kT]
 |some false,_=>
  simp(maxSteps:=1000000) (disch:=first|omega|(simp;done)|(simp;omega)) [z9a,z1a,z0a,z6h,z2O,kF]
  exact⟨by omega,by omega⟩
theorem z7wb:∀ds d b,z1oa.pre ds→ds[0]? =some d→z1oa.pre (ds.set 0 (z3Ha b d))∧z1oa.post (ds.set 0 (z3Ha b d))=z1oa.post ds:=by
 rintro _ d b ⟨nl,l,hn,rfl⟩ hd
 simp only[List.getElem?_cons_zero,Option.some.injEq] at hd
 subst hd
 cases nl with
 |none=>exact⟨⟨some b,l,hn,rfl⟩,rfl⟩
 |some c=>exact⟨⟨some c,l,hn,rfl⟩,rfl⟩
def z5oa:z5a:=⟨fun ds=>∃(nl:Option Bool) (l:List z3e),(z5d l∧l.length≤1000000)∧ds=[.sl .plain nl l.length (z6b l)],fun ds=> .sl (.own 24) none (gNn (nth ds 0)) (z6b (z7Y (gNn (nth ds 0)) (gCs (nth ds 0))))⟩
theorem z60a {nl:Option Bool} {l:List z3e} (h:z5d l) (h1:l.length≤1000000):z5oa.pre [.sl .plain nl l.length (z6b l)]=True:=eq_true ⟨nl,l,⟨h,h1⟩,rfl⟩
theorem z8ra {nl:Option Bool} {l:List z3e} (h:z5d l):z5oa.post [.sl .plain nl l.length (z6b l)]= .sl (.own 24) none l.length (z6b l):=by
 show z2a.sl (.own 24) none l.length (z6b (z7Y l.length (z6b l)))=_
 rw[z2I (z2c h)]
def z2vb:z5a:=⟨fun ds=>z5oa.pre ds∧∀d,ds[0]? =some d→z2Ea d,z5oa.post⟩
set_option maxHeartbeats 4000000 in
theorem z0Tb (E:Env):∀ds,z2vb.pre ds→ds.length=z5g.n∧awp E z5g.body (z1A z5g.res (z2vb.post ds)) (z9c z5g.wr ds):=by
 rintro _ ⟨⟨nl,l,⟨h16,hn⟩,rfl⟩,hk⟩
 have hk:=hk _ rfl
 rw[show z2vb.post [.sl .plain nl l.length (z6b l)]= .sl (.own 24) none l.length (z6b l) from z8ra h16]
 match nl,hk with
 |some true,hk=>
  have h0:l=[]:=List.length_eq_zero_iff.1 hk.1
  subst h0
  simp(maxSteps:=1000000) (disch:=first|omega|(simp;done)|(simp;omega)) [z9a,z1a,z0a,z5g,kT]
  rfl
 |some false,_=>
  have hlen:=z9d (z2c h16)
  simp(maxSteps:=1000000) (disch:=first|omega|(simp;done)|(simp;omega)) [z9a,z1a,z0a,z5g,z2J,kF,hlen]
  exact⟨by omega,by omega,z4ob⟩
theorem z4vb:∀ds d b,z5oa.pre ds→ds[0]? =some d→z5oa.pre (ds.set 0 (z3Ha b d))∧z5oa.post (ds.set 0 (z3Ha b d))=z5oa.post ds:=by
 rintro _ d b ⟨nl,l,hn,rfl⟩ hd
 simp only[List.getElem?_cons_zero,Option.some.injEq] at hd
 subst hd
 cases nl with
 |none=>exact⟨⟨some b,l,hn,rfl⟩,rfl⟩
 |some c=>exact⟨⟨some c,l,hn,rfl⟩,rfl⟩
/-! ### commands without what is secret -/
theorem z3sc (E:Env) (h293:E.G 293=z3Pb) (h291:E.G 291=z1oa):∀ds,z1ja.pre ds→ds.length=z9n.n∧awp E z9n.body (z1A z9n.res (z1ja.post ds)) (z9c z9n.wr ds):=by
 rintro _ ⟨c,nl,hc,rfl⟩
 rw[z3qa]
 obtain⟨k1,k2,k3,k4,k5,k6,dt,ls⟩:=c
 have hl:=hc.2.2
 simp only at hl
 by_cases hs:z5Pb k1=true
 ·simp(maxSteps:=1000000) (disch:=first|omega|(simp;done)|(simp;omega)) [z9a,z1a,z0a,z9n,z8P,z1q,h293,h291,kT,hs,z7Ca,z5ha,z7Gb,z1u,z7t]
 ·simp only[Bool.not_eq_true] at hs
  simp(maxSteps:=1000000) (disch:=first|omega|(simp;done)|(simp;omega)) [z9a,z1a,z0a,z9n,z8P,z1q,h293,h291,kF,hs,z7Ca,z5ha,z7Gb,z1u,z7t]
theorem z9rc (E:Env):∀ds,z5Lb.pre ds→ds.length=z2s.n∧awp E z2s.body (z1A z2s.res (z5Lb.post ds)) (z9c z2s.wr ds):=by
 rintro _ ⟨t,m,rfl⟩
 rw[z6ub]
 simp(maxSteps:=1000000) (disch:=first|omega|(simp;done)|(simp;omega)) [z9a,z1a,z0a,z2s,z5l,z9Ha,z5J,z1q,z1u,z7t,z8I (a:=z4c 16) (b:=z4c 16) rfl,z6va (d:=z4c 16) rfl,or_imp,forall_and,z95,z4oa]
 rfl
theorem z2mc (E:Env):∀ds,z9Kb.pre ds→ds.length=z0s.n∧awp E z0s.body (z1A z0s.res (z9Kb.post ds)) (z9c z0s.wr ds):=by
 rintro _ rfl
 rw[z5Db]
 simp(maxSteps:=1000000) (disch:=first|omega|(simp;done)|(simp;omega)) [z9a,z1a,z0a,z0s,z3d,z4xa,z1u,z7t,z6b]
theorem z7lc (E:Env) (h289:E.G 289=z1ja) (h131:E.G 131=z8da) (h290:E.G 290=z5oa) (h291:E.G 291=z1oa):∀ds,z2Hb.pre ds→ds.length=z9r.n∧awp E z9r.body (z1A z9r.res (z2Hb.post ds)) (z9c z9r.wr ds):=by
 rintro _ ⟨now,req,mode,c,nc,nm,ng,made,gone,hc,hm,h1,h2,rfl⟩
 unfold z6Dc
 rw[z82a hm]
 have e1:∀nl,z1ja.pre [.agg (z1q c nl)]=True:=fun nl=>z9Da hc
 have hd:(z5G 7 [z4Z c]).length=16:=z8A _ _
 have hp:=z9Da (nl:=nc) hc
 have hq:=z3qa c nc
 have hp':=z90a (nl:=nc) hc
 have hq':=z2ia c nc
 have hk:(z7Gb c).kind=c.kind:=by unfold z7Gb;split<;>rfl
 generalize hD:z5G 7 [z4Z c]=D at*
 generalize hC:z7Gb c=c' at*
 obtain⟨k1,k2,k3,k4,k5,k6,dt,ls⟩:=c
 obtain⟨j1,j2,j3,j4,j5,j6,dt',ls'⟩:=c'
 simp only[z1q] at hp hq hp' hq' hk
 simp(maxSteps:=1000000) (disch:=first|omega|(simp;done)|(simp;omega)) [z9a,z1a,z0a,z9r,h289,h131,h290,h291,z1q,hp,hq,hp',hq',z60a hm h1,z8ra hm,z7Ca,z5ha,z1u,z7t,z8I (a:=z4c 16) (b:=D) hd,z68 (a:=z4c 16) (b:=D) hd,z2ga (a:=D) hd,z6ha (a:=D) hd,z6va hd,hd,or_imp,forall_and,z95,z4oa]
 subst hk
 simp[z5l,mkE,hC,hD,z1q]
end Go.Abs
end

section
namespace Go.Abs
set_option maxRecDepth 100000
def atD (l:List z3e) (i:Nat):z3e:=l.getD i z7sc
theorem z6T {l:List z3e} {i:Nat} (h:i<l.length):atD l i=l[i]:=by simp[atD,List.getD,List.getElem?_eq_getElem h]
theorem z9T {l:List z3e} {i:Nat} (h:i<l.length):atD l i∈l:=by rw[z6T h];exact List.getElem_mem h
theorem z4wa {l:List z3e} (h:z5d l) {i:Nat} (hi:i<l.length):((z6b l).drop (i*24)).take 24=z2n (atD l i):=by
 have e1:=z5aa (enc:=z2n) (P:=z5Ea) (w:=24) (fun a ha=>z8k ha) l i (z2c h)
 have hd:=z2c h _ (List.getElem_mem hi)
 rw[show z6b l=l.flatMap z2n from rfl,e1,List.drop_eq_getElem_cons hi,List.flatMap_cons,List.take_left' (z8k hd),z6T hi]
/-! ### a key's cells, by name -/
@[simp] theorem mad_0 (m:z3e):hdA (z2n m)=i64 m.id:=rfl
@[simp] theorem mad_1 (m:z3e):hdA ((z2n m).drop 1)=i64 m.ty:=rfl
@[simp] theorem mad_1t (m:z3e):hdA (z2n m).tail=i64 m.ty:=rfl
@[simp] theorem mad_2 (m:z3e):hdA ((z2n m).drop 2)=i64 m.uses:=rfl
@[simp] theorem mad_3 (m:z3e):hdA ((z2n m).drop 3)=i64 m.beg:=rfl
@[simp] theorem mad_4 (m:z3e):hdA ((z2n m).drop 4)=i64 m.fin:=rfl
@[simp] theorem mad_5 (m:z3e):hdA ((z2n m).drop 5)=i64 m.ver:=rfl
@[simp] theorem mad_6 (m:z3e):hdA ((z2n m).drop 6)=i64 m.par:=rfl
@[simp] theorem mad_7 (m:z3e):hdA ((z2n m).drop 7)=bo m.raw:=rfl
@[simp] theorem mad_8 (m:z3e):(z2n m).drop 8=bys m.dig:=rfl
theorem z7n (m:z3e):(∀c∈z2n m,z2d c)=True:=eq_true fun c hc=>(z5W c hc).2
theorem z3r (m:z3e):(∀c∈z2n m,z1f c=false)=True:=eq_true fun c hc=>by
 rcases List.mem_append.1 hc with h|h
 ·simp only[List.mem_cons,List.not_mem_nil,or_false] at h
  rcases h with rfl|rfl|rfl|rfl|rfl|rfl|rfl|rfl<;>rfl
 ·simp only[bys,List.mem_map] at h
  obtain⟨x,_,rfl⟩:=h
  rfl
theorem z98 {m:z3e} (h:m.dig.length=16):(z2n m).take 24=z2n m:=List.take_of_length_le (by rw[z8k h];exact Nat.le_refl _)
theorem z08 {m:z3e} (h:m.dig.length=16) {zs:List z2a} (hz:zs.length=24):splice zs 0 (z2n m)=z2n m:=z8f (by rw[z8k h,hz])
@[simp] theorem z9Vc (m:z3e):z2h (z2n m)=true:=(z5m _).2 fun c hc=>(z5W c hc).1
@[simp] theorem z7Nc (m:z3e):z7g (z2n m)=[]:=by simp[z2n,z7g]
theorem z9hb {l:List z3e} {p:z3e→Bool} {i:Nat} (h:i<l.length):(l.take (i+1)).filter p=(l.take i).filter p++(if p (atD l i) then [atD l i] else []):=by
 rw[List.take_succ_eq_append_getElem h,List.filter_append,z6T h]
 congr 1
 cases hp:p l[i]<;>simp[List.filter,hp]
theorem z8fa (a b:List z3e):z6b (a++b)=z6b a++z6b b:=by simp[z6b]
theorem z74a (m:z3e):z6b [m]=z2n m:=by simp[z6b]
set_option maxHeartbeats 8000000 in
theorem z6mc (E:Env):∀ds,z33b.pre ds→ds.length=z5s.n∧awp E z5s.body (z1A z5s.res (z33b.post ds)) (z9c z5s.wr ds):=by
 rintro _ ⟨nk,v,now,h16,hl,rfl⟩
 rw[z6Fa now h16]
 have hlen:=z9d (z2c h16)
 obtain⟨t,m,e,n,ks⟩:=v
 simp only at h16 hl hlen
 simp only[z2Sa]
 simp(maxSteps:=1000000) (disch:=first|omega|(simp;done)|(simp;omega)) [z9a,z1a,z0a,z5s,z3d]
 refine z3a fun Q0 hQ0=> ?_
 refine z4d (fun i:Nat=>⟨[(0,.agg [i64 t,i64 m,i64 e,i64 n,.sl .plain nk ks.length (z6b ks)]),(1,i64 now)],[(4,.sl (.own 24) none ((ks.take i).filter fun m=>z9na m now).length (z6b ((ks.take i).filter fun m=>z9na m now))),(8,.sl .plain nk ks.length (z6b ks)),(9,i64 ks.length),(10,i64 i)],[(2,some [i64 t,i64 m,i64 e,i64 n,.sl .plain nk ks.length (z6b ks)])]⟩)
  (fun i=>ks.length-i) (fun i=>i≤ks.length) 0 (by simp[z6b]) (by simp) fun i hi=> ?_
 refine z3a fun Q1 hQ1=> ?_
 by_cases h1:i<ks.length
 ·have hm:=h16 _ (z9T h1)
  have hd:=hm.2.2.2.2.2.2.2
  have ha:=z4wa h16 h1
  have hml:=z8k hd
  have hf:=z9hb (p:=fun m=>z9na m now) h1
  have hle:24≤ks.length*24-i*24:=by omega
  have hle2:i*24≤ks.length*24:=by omega
  have hFl:((ks.take i).filter fun m=>z9na m now).length≤i:=Nat.le_trans (List.length_filter_le _ _) (by rw[List.length_take];omega)
  generalize hX:atD ks i=x at*
  generalize hF:(ks.take i).filter (fun m=>z9na m now)=F at*
  have sp:splice (i64 0::i64 0::i64 0::i64 0::i64 0::i64 0::i64 0::bo false::bys (z4c 16)) 0 (z2n x)=z2n x:=z08 hd rfl
  have sp':splice [i64 0,i64 0,i64 0,i64 0,i64 0,i64 0,i64 0,bo false,u8 0,u8 0,u8 0,u8 0,u8 0,u8 0,u8 0,u8 0,u8 0,u8 0,u8 0,u8 0,u8 0,u8 0,u8 0,u8 0] 0 (z2n x)=z2n x:=z08 hd rfl
  by_cases h2:x.beg≤now
  ·by_cases h3:now<x.fin
   ·have hz:z9na x now=true:=by simp[z9na,h2,h3]
    rw[hz] at hf
    simp only[if_true] at hf
    simp(maxSteps:=1000000) (disch:=first|omega|(simp;done)|(simp;omega)) [z9a,z1a,z0a,z3y,z4H,kT,kF,dT,dF,h1,ha,hlen,hle,hle2,hml,z7n,z3r,z98 hd,sp,sp',h2,h3,hQ1]
    exact⟨⟨by omega,by omega,fun c hc=>z5W c hc⟩,i+1,by omega,by omega,⟨by rw[hf];simp,by rw[hf,z8fa,z74a]⟩,by omega⟩
   ·have hz:z9na x now=false:=by simp[z9na,h3]
    rw[hz] at hf
    simp only[Bool.false_eq_true,if_false,List.append_nil] at hf
    simp(maxSteps:=1000000) (disch:=first|omega|(simp;done)|(simp;omega)) [z9a,z1a,z0a,z3y,z4H,kT,kF,dT,dF,h1,ha,hlen,hle,hle2,hml,z7n,z3r,z98 hd,sp,sp',h2,h3,hQ1]
    exact⟨i+1,by omega,by omega,⟨by rw[hf],by rw[hf]⟩,by omega⟩
  ·have hz:z9na x now=false:=by simp[z9na,h2]
   rw[hz] at hf
   simp only[Bool.false_eq_true,if_false,List.append_nil] at hf
   simp(maxSteps:=1000000) (disch:=first|omega|(simp;done)|(simp;omega)) [z9a,z1a,z0a,z3y,z4H,kT,kF,dT,dF,h1,ha,hlen,hle,hle2,hml,z7n,z3r,z98 hd,sp,sp',h2,hQ1]
   exact⟨i+1,by omega,by omega,⟨by rw[hf],by rw[hf]⟩,by omega⟩
 ·obtain rfl:i=ks.length:=by omega
  simp(maxSteps:=1000000) (disch:=first|omega|(simp;done)|(simp;omega)) [z9a,z1a,z0a,z3y,kT,kF,dT,dF,hQ1,hQ0,z69,List.take_length]
end Go.Abs
end

section
namespace Go.Abs
theorem z4ac (v:BitVec 64):IntKind.i64.wrap (v.toNat:Int)=v.toInt:=by
 have h:=v.isLt
 rw[BitVec.toInt_eq_toNat_cond]
 show(let m:=(v.toNat:Int)% 2^64;if true&&decide (2^(64-1)≤m) then m-2^64 else m)=_
 simp only[Bool.true_and,decide_eq_true_eq,show(2:Int)^(64-1)=9223372036854775808 from rfl,show(2:Int)^64=18446744073709551616 from rfl,show(2:Nat)^64=18446744073709551616 from rfl]
 have h:v.toNat<18446744073709551616:=h
 split<;>split<;>omega
end Go.Abs
end

section
namespace Go.Abs
def M32:Nat:=4294967296
def rx (y n:Nat):Nat:=Nat.shiftRight y n
def dbl (x:Nat):Nat:=Nat.mul 4294967297 x
theorem z0ha (x:UInt32) {n:Nat} (hn:n≤32):(z1U x n).toNat=rx (dbl x.toNat) n% 2^32:=by
 have hx:=x.toNat_lt
 have e1:(z1U x n).toNat=(x.toNat>>>n)|||((x.toNat<<<(32-n))% 2^32):=by
  rw[z1U,UInt32.toNat_or]
  show(x.toBitVec>>>n).toNat|||(x.toBitVec<<<(32-n)).toNat=_
  rw[BitVec.toNat_ushiftRight,BitVec.toNat_shiftLeft]
  rfl
 have e2:rx (dbl x.toNat) n=(2^32*x.toNat+x.toNat)>>>n:=by
  show(4294967297*x.toNat)>>>n=_
  congr 1
  omega
 rw[e1,e2]
 apply Nat.eq_of_testBit_eq
 intro i
 rw[Nat.testBit_or,Nat.testBit_shiftRight,Nat.testBit_mod_two_pow,Nat.testBit_shiftLeft,Nat.testBit_mod_two_pow,Nat.testBit_shiftRight,Nat.testBit_two_pow_mul_add _ hx]
 by_cases hi:i<32
 ·by_cases h:n+i<32
  ·have h0:¬32-n≤i:=by omega
   simp[hi,h,h0]
  ·have h0:32-n≤i:=by omega
   have hf:x.toNat.testBit (n+i)=false:=Nat.testBit_lt_two_pow (Nat.lt_of_lt_of_le hx (Nat.pow_le_pow_right (by decide) (by omega)))
   simp[hi,h,h0,hf]
   congr 1
   omega
 ·have hf:x.toNat.testBit (n+i)=false:=Nat.testBit_lt_two_pow (Nat.lt_of_lt_of_le hx (Nat.pow_le_pow_right (by decide) (by omega)))
  simp[hi,hf]
def xo3 (y i j k:Nat):Nat:=Nat.mod (Nat.xor (Nat.xor (rx y i) (rx y j)) (rx y k)) M32
theorem z9Ob (x:UInt32) {i j k:Nat} (hi:i≤32) (hj:j≤32) (hk:k≤32):(z1U x i^^^z1U x j^^^z1U x k).toNat=xo3 (dbl x.toNat) i j k:=by
 rw[UInt32.toNat_xor,UInt32.toNat_xor,z0ha x hi,z0ha x hj,z0ha x hk]
 show _=((rx (dbl x.toNat) i^^^rx (dbl x.toNat) j)^^^rx (dbl x.toNat) k)% 2^32
 rw[Nat.xor_mod_two_pow,Nat.xor_mod_two_pow]
def xo2 (x y i j k:Nat):Nat:=Nat.xor (Nat.mod (Nat.xor (rx y i) (rx y j)) M32) (Nat.shiftRight x k)
theorem z9Lb (x:UInt32) {i j:Nat} (k:Nat) (hi:i≤32) (hj:j≤32):(z1U x i^^^z1U x j^^^z6Ga x k).toNat=xo2 x.toNat (dbl x.toNat) i j k:=by
 rw[UInt32.toNat_xor,UInt32.toNat_xor,z0ha x hi,z0ha x hj]
 show _=((rx (dbl x.toNat) i^^^rx (dbl x.toNat) j)% 2^32)^^^(x.toNat>>>k)
 rw[Nat.xor_mod_two_pow]
 rfl
structure N8 where
 a:Nat
 b:Nat
 c:Nat
 d:Nat
 e:Nat
 f:Nat
 g:Nat
 h:Nat
def toN (s:H8):N8:=⟨s.a.toNat,s.b.toNat,s.c.toNat,s.d.toNat,s.e.toNat,s.f.toNat,s.g.toNat,s.h.toNat⟩
def z5Jc (k w:Nat) (s:N8):N8:=
 (fun x y=>N8.mk (Nat.mod (Nat.add x y) M32) s.a s.b s.c (Nat.mod (Nat.add s.d x) M32) s.e s.f s.g)
  (Nat.add (Nat.add (Nat.add (Nat.add s.h (xo3 (dbl s.e) 6 11 25)) (Nat.xor (Nat.land s.e s.f) (Nat.land (Nat.sub 4294967295 s.e) s.g))) k) w)
  (Nat.add (xo3 (dbl s.a) 2 13 22) (Nat.xor (Nat.xor (Nat.land s.a s.b) (Nat.land s.a s.c)) (Nat.land s.b s.c)))
theorem z1Zc (k w:UInt32) (s:H8):toN (rnd k w s)=z5Jc k.toNat w.toNat (toN s):=by
 have h1:=z9Ob s.e (i:=6) (j:=11) (k:=25) (by decide) (by decide) (by decide)
 have h2:=z9Ob s.a (i:=2) (j:=13) (k:=22) (by decide) (by decide) (by decide)
 have h3:(~~~s.e).toNat=4294967295-s.e.toNat:=by rw[UInt32.toNat_not];rfl
 simp only[toN,rnd,z5Jc,N8.mk.injEq,and_true,true_and]
 rw[←h1,←h2]
 generalize(z1U s.e 6^^^z1U s.e 11^^^z1U s.e 25)=S1
 generalize(z1U s.a 2^^^z1U s.a 13^^^z1U s.a 22)=S0
 simp only[UInt32.toNat_add,UInt32.toNat_xor,UInt32.toNat_and,h3]
 show _=(_+_+((s.e.toNat&&&s.f.toNat)^^^((4294967295-s.e.toNat)&&&s.g.toNat))+_+_+(_+((s.a.toNat&&&s.b.toNat)^^^(s.a.toNat&&&s.c.toNat)^^^(s.b.toNat&&&s.c.toNat))))% M32∧_=(s.d.toNat+(_+_+((s.e.toNat&&&s.f.toNat)^^^((4294967295-s.e.toNat)&&&s.g.toNat))+_+_))% M32
 simp only[M32]
 omega
def z35a:List Nat→List Nat→N8→N8
 |[],_,s=>s
 |_::_,[],s=>s
 |k::ks,w::ws,s=>z35a ks ws (z5Jc k w s)
theorem z2za (k w:Nat):∀(ks ws:List Nat) (s:N8),ks.length=ws.length→z35a (ks++[k]) (ws++[w]) s=z5Jc k w (z35a ks ws s)
 |[],[],s,_=>rfl
 |[],_::_,_,h=>by simp at h
 |_::_,[],_,h=>by simp at h
 |k'::ks,w'::ws,s,h=>by
  simp only[List.cons_append,z35a]
  exact z2za k w ks ws _ (by simpa using h)
def n32 (l:List UInt32):List Nat:=l.map UInt32.toNat
theorem z1Mb {l:List UInt32} {i:Nat} (h:i<l.length):l.take (i+1)=l.take i++[z6p l i]:=by
 rw[List.take_succ_eq_append_getElem h,z6p,List.getD,List.getElem?_eq_getElem h];rfl
theorem z7Nb (w:List UInt32) (s:H8) (hw:w.length=64):∀t,t≤64→toN (z6wa w s t)=z35a (n32 (kc.take t)) (n32 (w.take t)) (toN s)
 |0,_=>rfl
 |t+1,h=>by
  have hk:kc.length=64:=rfl
  have e1:n32 (kc.take (t+1))=n32 (kc.take t)++[(z6p kc t).toNat]:=by rw[z1Mb (l:=kc) (by omega)];simp[n32]
  have e2:n32 (w.take (t+1))=n32 (w.take t)++[(z6p w t).toNat]:=by rw[z1Mb (l:=w) (by omega)];simp[n32]
  rw[z6wa,z1Zc,z7Nb w s hw t (by omega),e1,e2]
  exact(z2za _ _ _ _ _ (by simp[n32];omega)).symm
def z5Pc:Nat→List Nat→List Nat
 |0,acc=>acc
 |n+1,acc=>z5Pc n ((fun p q=>Nat.mod (Nat.add (Nat.add (Nat.add (acc.getD 15 0) (xo2 p (dbl p) 7 18 3)) (acc.getD 6 0)) (xo2 q (dbl q) 17 19 10)) M32) (acc.getD 14 0) (acc.getD 1 0)::acc)
theorem z9Ya (w:List UInt32) {i:Nat} (h:i<w.length):(n32 w.reverse).getD i 0=(z6p w (w.length-1-i)).toNat:=by
 rw[n32,List.getD,List.getElem?_map,List.getElem?_eq_getElem (by simpa using h),List.getElem_reverse,z6p,List.getD,List.getElem?_eq_getElem (by omega)]
 rfl
theorem z4cb (b:List UInt8):∀(n t:Nat),16≤t→z5Pc n (n32 (z3k b t).reverse)=n32 (z3k b (t+n)).reverse
 |0,_,_=>rfl
 |n+1,t,ht=>by
  have hl:=z8p b t
  rw[z5Pc,z9Ya _ (by omega),z9Ya _ (by omega),z9Ya _ (by omega),z9Ya _ (by omega),hl]
  have hs:n32 (z3k b (t+1)).reverse=(z0xa b t (z3k b t)).toNat::n32 (z3k b t).reverse:=by simp[z3k,n32]
  have e:(z0xa b t (z3k b t)).toNat=Nat.mod (Nat.add (Nat.add (Nat.add (z6p (z3k b t) (t-1-15)).toNat (xo2 (z6p (z3k b t) (t-1-14)).toNat (dbl (z6p (z3k b t) (t-1-14)).toNat) 7 18 3)) (z6p (z3k b t) (t-1-6)).toNat) (xo2 (z6p (z3k b t) (t-1-1)).toNat (dbl (z6p (z3k b t) (t-1-1)).toNat) 17 19 10)) M32:=by
   rw[z0xa,if_neg (by omega),sg0,sg1,UInt32.toNat_add,UInt32.toNat_add,UInt32.toNat_add,z9Lb _ 3 (by decide) (by decide),z9Lb _ 10 (by decide) (by decide)]
   simp only[Nat.sub_sub]
   show _=(_+_+_+_)% M32
   simp only[M32,Nat.reduceAdd]
   omega
  have e':=(congrArg (· ::n32 (z3k b t).reverse) e).symm.trans hs.symm
  have h':=z4cb b n (t+1) (by omega)
  rw[←e',Nat.add_assoc,Nat.add_comm 1 n] at h'
  exact h'
def wd (b:List UInt8) (t:Nat):Nat:=Nat.add (Nat.mul 256 (Nat.add (Nat.mul 256 (Nat.add (Nat.mul 256 (at8 b (4*t)).toNat) (at8 b (4*t+1)).toNat)) (at8 b (4*t+2)).toNat)) (at8 b (4*t+3)).toNat
theorem or8 {x:UInt32} {N:Nat} (hx:x.toNat=N) (hN:N<16777216) (c:UInt8):(z2ca x 8|||c.toUInt32).toNat=256*N+c.toNat:=by
 subst hx
 have hc:=c.toNat_lt
 rw[UInt32.toNat_or]
 show((x.toBitVec<<<8).toNat|||c.toUInt32.toNat)=_
 rw[BitVec.toNat_shiftLeft,UInt8.toNat_toUInt32]
 show(x.toNat<<<8% 2^32|||c.toNat)=_
 rw[Nat.mod_eq_of_lt (by rw[Nat.shiftLeft_eq];omega),←Nat.shiftLeft_add_eq_or_of_lt (by omega),Nat.shiftLeft_eq]
 omega
theorem z33c (b:List UInt8) (t:Nat):(ldw b t 4).toNat=wd b t:=by
 have h0:=(at8 b (4*t)).toNat_lt
 have h1:=(at8 b (4*t+1)).toNat_lt
 have h2:=(at8 b (4*t+2)).toNat_lt
 have e1:(ldw b t 1).toNat=(at8 b (4*t)).toNat:=by rw[ldw,ldw,or8 (N:=0) rfl (by decide)];simp
 have e2:(ldw b t 2).toNat=256*(at8 b (4*t)).toNat+(at8 b (4*t+1)).toNat:=by rw[ldw,or8 e1 (by omega)]
 have e3:(ldw b t 3).toNat=256*(256*(at8 b (4*t)).toNat+(at8 b (4*t+1)).toNat)+(at8 b (4*t+2)).toNat:=by rw[ldw,or8 e2 (by omega)]
 rw[ldw,or8 e3 (by omega)]
 rfl
def z4Dc:Nat→List UInt8→List Nat→List Nat
 |n+1,a::b::c::d::r,acc=>z4Dc n r (Nat.add (Nat.mul 256 (Nat.add (Nat.mul 256 (Nat.add (Nat.mul 256 a.toNat) b.toNat)) c.toNat)) d.toNat::acc)
 |_,_,acc=>acc
theorem z8Lb (b:List UInt8) (hb:b.length=64):∀(n t:Nat),n+t=16→z4Dc n (b.drop (4*t)) (n32 (z3k b t).reverse)=n32 (z3k b 16).reverse
 |0,t,h=>by
  have:t=16:=by omega
  subst this
  rfl
 |n+1,t,h=>by
  have hd:b.drop (4*t)=at8 b (4*t)::at8 b (4*t+1)::at8 b (4*t+2)::at8 b (4*t+3)::b.drop (4*(t+1)):=by
   rw[List.drop_eq_getElem_cons (by omega),List.drop_eq_getElem_cons (by omega),List.drop_eq_getElem_cons (by omega),List.drop_eq_getElem_cons (by omega)]
   simp only[at8,List.getD,List.getElem?_eq_getElem (show 4*t<b.length by omega),List.getElem?_eq_getElem (show 4*t+1<b.length by omega),List.getElem?_eq_getElem (show 4*t+2<b.length by omega),List.getElem?_eq_getElem (show 4*t+3<b.length by omega),Option.getD_some]
   rfl
  have hs:n32 (z3k b (t+1)).reverse=wd b t::n32 (z3k b t).reverse:=by
   have:z0xa b t (z3k b t)=ldw b t 4:=by rw[z0xa,if_pos (by omega)]
   simp[z3k,n32,this,z33c]
  rw[hd,z4Dc]
  show z4Dc n _ (wd b t::_)=_
  rw[←hs,z8Lb b hb n (t+1) (by omega)]
def kcN:List Nat:=n32 kc
def z53a (s:N8) (b:List UInt8):N8:=
 (fun r=>N8.mk (Nat.mod (Nat.add s.a r.a) M32) (Nat.mod (Nat.add s.b r.b) M32) (Nat.mod (Nat.add s.c r.c) M32) (Nat.mod (Nat.add s.d r.d) M32) (Nat.mod (Nat.add s.e r.e) M32) (Nat.mod (Nat.add s.f r.f) M32) (Nat.mod (Nat.add s.g r.g) M32) (Nat.mod (Nat.add s.h r.h) M32))
  (z35a kcN (z5Pc 48 (z4Dc 16 b [])).reverse s)
theorem z1Zb (s:H8) (b:List UInt8) (hb:b.length=64):toN (z3Pa s b)=z53a (toN s) b:=by
 have hw:=z8Lb b hb 16 0 rfl
 have e0:b.drop (4*0)=b:=rfl
 have e1:n32 (z3k b 0).reverse=[]:=rfl
 rw[e0,e1] at hw
 have hs:=z4cb b 48 16 (by decide)
 have hr:=z7Nb (z3k b 64) s (z8p b 64) 64 (by decide)
 rw[List.take_of_length_le (l:=z3k b 64) (by rw[z8p];decide),List.take_of_length_le (l:=kc) (i:=64) (Nat.le_refl _)] at hr
 have hrev:(n32 (z3k b 64).reverse).reverse=n32 (z3k b 64):=by simp[n32]
 unfold z53a
 rw[hw,hs,hrev,kcN,←hr]
 simp only[z3Pa,H8.add,toN,N8.mk.injEq]
 exact⟨UInt32.toNat_add _ _,UInt32.toNat_add _ _,UInt32.toNat_add _ _,UInt32.toNat_add _ _,UInt32.toNat_add _ _,UInt32.toNat_add _ _,UInt32.toNat_add _ _,UInt32.toNat_add _ _⟩
def z65b:Nat→List UInt8→N8→N8
 |0,_,s=>s
 |k+1,m,s=>z65b k (m.drop 64) (z53a s (m.take 64))
theorem z2Oa:∀(k:Nat) (m:List UInt8) (s:N8),z65b (k+1) m s=z53a (z65b k m s) ((m.drop (64*k)).take 64)
 |0,_,_=>rfl
 |k+1,m,s=>by
  rw[z65b,z2Oa k,List.drop_drop,show 64+64*k=64*(k+1) by omega]
  rfl
theorem z2oc (m:List UInt8) (s:H8):∀k,64*k≤m.length→toN (blk m s k)=z65b k m (toN s)
 |0,_=>rfl
 |k+1,h=>by rw[blk,z1Zb _ _ (by simp;omega),z2oc m s k (by omega),z2Oa]
def o4 (x:Nat):List UInt8:=[UInt8.ofNat (Nat.shiftRight x 24),UInt8.ofNat (Nat.shiftRight x 16),UInt8.ofNat (Nat.shiftRight x 8),UInt8.ofNat x]
def z1Sc (s:N8):List UInt8:=o4 s.a++(o4 s.b++(o4 s.c++(o4 s.d++(o4 s.e++(o4 s.f++(o4 s.g++o4 s.h))))))
theorem z5zc (x:UInt32) (n:Nat):(z6Ga x n).toUInt8=UInt8.ofNat (Nat.shiftRight x.toNat n):=by
 apply UInt8.toNat_inj.1
 rw[UInt32.toNat_toUInt8,UInt8.toNat_ofNat']
 show(x.toBitVec>>>n).toNat% 256=(x.toNat>>>n)% 256
 rw[BitVec.toNat_ushiftRight]
 rfl
theorem z9ad (h:H8):z48a h 32=z1Sc (toN h):=by
 simp only[z48a,z1Sc,o4,toN,List.nil_append,List.append_assoc,List.cons_append,z5zc]
 rfl
def z0Fc (n:Nat):List UInt8:=128::(z4c (Nat.mod (Nat.sub 119 (Nat.mod n 64)) 64)++[UInt8.ofNat (Nat.shiftRight (Nat.mul 8 n) 56),UInt8.ofNat (Nat.shiftRight (Nat.mul 8 n) 48),UInt8.ofNat (Nat.shiftRight (Nat.mul 8 n) 40),UInt8.ofNat (Nat.shiftRight (Nat.mul 8 n) 32),UInt8.ofNat (Nat.shiftRight (Nat.mul 8 n) 24),UInt8.ofNat (Nat.shiftRight (Nat.mul 8 n) 16),UInt8.ofNat (Nat.shiftRight (Nat.mul 8 n) 8),UInt8.ofNat (Nat.mul 8 n)])
theorem z7Yb {x:UInt64} {N:Nat} (hx:x.toNat=N) (n:Nat):(z2xa x n).toUInt8=UInt8.ofNat (Nat.shiftRight N n):=by
 apply UInt8.toNat_inj.1
 rw[UInt64.toNat_toUInt8,UInt8.toNat_ofNat']
 show(x.toBitVec>>>n).toNat% 256=(N>>>n)% 256
 rw[BitVec.toNat_ushiftRight]
 subst hx
 rfl
theorem z39c {n:Nat} (h:n<1099511627776):z8Sa (UInt64.ofNat n)=z0Fc n:=by
 have h1:(UInt64.ofNat n).toNat=n:=by rw[UInt64.toNat_ofNat'];omega
 have h2:(8*UInt64.ofNat n).toNat=8*n:=by
  rw[UInt64.toNat_mul,h1]
  have:(8:UInt64).toNat=8:=rfl
  rw[this];omega
 simp only[z8Sa,h1,z0Fc,be8,List.nil_append,List.append_assoc,List.cons_append,z7Yb h2,z1xa]
 rfl
def ivN:N8:=toN iv
def shaN (b:List UInt8):List UInt8:=(fun m=>z1Sc (z65b (Nat.div m.length 64) m ivN)) (b++z0Fc b.length)
theorem z2Sb {b:List UInt8} (h:b.length<1099511000000):sha b=shaN b:=by
 obtain⟨h1,h2,h3⟩:=z5la (b:=b) (by omega)
 rw[z0fb h,z9ad,z2oc _ _ _ (by omega)]
 show _=z1Sc (z65b ((b++z0Fc b.length).length/64) (b++z0Fc b.length) ivN)
 rw[←z39c (by omega)]
 rfl
end Go.Abs
end

section
namespace Go.Abs
def dEx:Cmd:=⟨1,0,0,2,0,0,[],[]⟩
def mEx:z3e:=⟨1,2,0,0,9,1,0,false,z9hc⟩
def DEx:List UInt8:=[169,165,62,53,164,222,79,165,246,192,150,189,233,112,29,80]
def xEx (d:List UInt8):z9o:=⟨5,1,0,1,dEx,d,[mEx],[]⟩
theorem z2Ob:z5G 7 [z4Z dEx]=DEx:=by
 rw[z5G,z2Sb (by decide+kernel)]
 kernel_rfl
theorem z4qc:z5G 8 [z6Aa (xEx DEx)]=[164,204,154,203,156,58,163,22,115,26,207,131,155,88,134,22]:=by
 rw[z5G,z2Sb (by decide+kernel)]
 kernel_rfl
theorem z6yc:z5G 8 [z6Aa (z9Ha 5 1)]=[1,26,216,140,128,18,255,112,18,42,81,54,18,154,119,222]:=by
 rw[z5G,z2Sb (by decide+kernel)]
 kernel_rfl
theorem okEx (d:List UInt8):okE (xEx d)=true:=by rfl
def vEx:z7i:=⟨5,1,1,2,[mEx]⟩
theorem z18c (d:List UInt8):z7ea z4xa (xEx d)=⟨vEx,0⟩:=by rfl
theorem z8sc (d:List UInt8):z7ea vEx (xEx d)=⟨z1O,7⟩:=by rfl
theorem z37b:z7ea vEx (z9Ha 4 3)=⟨z1O,20⟩:=by rfl
theorem z7Gc:z7ea vEx (z9Ha 6 3)=⟨⟨6,3,2,2,[mEx]⟩,0⟩:=by rfl
theorem z49b:(z2Sa vEx 8).length=1:=by rfl
theorem z29b:(z2Sa vEx 9).length=0:=by rfl
end Go.Abs
end
