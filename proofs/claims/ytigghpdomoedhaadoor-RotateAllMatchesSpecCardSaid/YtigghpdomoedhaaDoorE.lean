/- Lemmas: an abstract interpreter, and what the functions compute. -/
import Derived.Test.YtigghpdomoedhaaDoorC
import Derived.Deep.DeepHandedRow
import Derived.Lib.LaidTab
import Derived.ChangeBears
import Derived.Carry
import Derived.OpenShut
import Derived.ChangeSame
import Derived.Test.YtigghpdomoedhaaDoorD
set_option linter.unusedSimpArgs false
set_option linter.unusedVariables false
set_option linter.unusedSectionVars false
section
namespace Go.Abs

inductive GT where
 |bool
 |int (k:IntKind)
 |str
 |sl (e:GT)
 |arr (n:Nat) (e:GT)
 |st (fs:List GT)

mutual
def GT.has:GT→List z2a→Prop
 | .bool,cs=>∃b,cs=[.lit (.bool b)]
 | .int k,cs=>∃n,cs=[.lit (.int k n)]∧k.min≤n∧n≤k.max
 | .str,cs=>∃s:ByteArray,cs=[.lit (.string s)]∧s.size≤maxLen
 | .sl e,cs=>∃ess:List (List z2a),(∀c∈ess,e.has c)∧cs=[.sl .plain none ess.length ess.flatten]∧ess.length≤maxLen
 | .arr n e,cs=>∃ess:List (List z2a),ess.length=n∧(∀c∈ess,e.has c)∧cs=ess.flatten
 | .st fs,cs=>GT.hasL fs cs
def GT.hasL:List GT→List z2a→Prop
 |[],cs=>cs=[]
 |f::fs,cs=>∃a b,cs=a++b∧f.has a∧GT.hasL fs b
end

mutual
def GT.flat:GT→Bool
 | .sl _=>false
 | .arr _ e=>e.flat
 | .st fs=>GT.flatL fs
 |_=>true
def GT.flatL:List GT→Bool
 |[]=>true
 |f::fs=>f.flat&&GT.flatL fs
end

mutual
def GT.fits (P:Program):GT→TypeId→Bool
 | .bool,t=>match P.underlying t with|some .bool=>true|_=>false
 | .int k,t=>match P.underlying t with|some (.int k')=>k==k'|_=>false
 | .str,t=>match P.underlying t with|some .string=>true|_=>false
 | .sl e,t=>match P.underlying t with|some (.slice t')=>e.fits P t'&&(P.cellsOf t' !=0)|_=>false
 | .arr n e,t=>match P.underlying t with|some (.array n' t')=>n==n'&&e.fits P t'|_=>false
 | .st fs,t=>match P.underlying t with|some (.struct F)=>GT.fitsL P fs (F.toList.map (·.type))|_=>false
def GT.fitsL (P:Program):List GT→List TypeId→Bool
 |[],[]=>true
 |f::fs,t::ts=>f.fits P t&&GT.fitsL P fs ts
 |_,_=>false
end

mutual
def wt:z2a→Nat
 | .lit (.string s)=>s.size+1
 | .sl _ _ _ cs=>wtL cs+1
 | .agg cs=>wtL cs
 |_=>1
def wtL:List z2a→Nat
 |[]=>0
 |c::cs=>wt c+wtL cs
end
theorem z7la (a b:List z2a):wtL (a++b)=wtL a+wtL b:=by
 induction a with
 |nil=>simp[wtL]
 |cons x a ih=>simp only[List.cons_append,wtL,ih];omega

structure z61b {H:Type} (B:DataW H→Nat):Prop where
 lit:∀l,1≤B (.lit l)
 str:∀l,l.length+1≤B (.lit (.string l))
 nil:1≤B .nil
 slice:∀es sp,(es.map B).sum+1≤B (.slice es sp)
 agg:∀ps,(ps.map B).sum≤B (.agg ps)

section
variable {H : Type} {enc : TypeId × Value → H} {K : Cx} {S : Nat → Nat} {W : World} {B : DataW H → Nat}

theorem z5c.app {K:Con} {S:Nat→Nat} {w:World}:∀{ds ds':List z2a} {vs vs':List Value},z5c K S w ds vs→z5c K S w ds' vs'→z5c K S w (ds++ds') (vs++vs')
 |[],_,vs,_,h,h'=>by simp only[z5c] at h;subst h;simpa using h'
 |c::cs,_,vs,_,h,h'=>by
  simp only[z5c] at h
  obtain⟨x,xs,rfl,h1,h2⟩:=h
  simp only[List.cons_append,z5c]
  exact⟨x,xs++_,rfl,h1,z5c.app h2 h'⟩

noncomputable def z88 (w:World):Nat→Nat:=fun b=>match w.heap[b]? with|some (.cells c _ _)=>c.size|_=>0
theorem z2Ha {w:World} {b o:Nat} {x:Value} (h:w.cell? ⟨b,o,none⟩=some x):o<z88 w b:=by
 unfold World.cell? at h
 unfold z88
 cases hb:w.heap[b]? with
 |none=>simp[hb] at h
 |some q=>
  cases q with
  |cells c e fr=>
   simp[hb] at h
   exact(Array.getElem?_eq_some_iff.1 h).1
  |_=>simp[hb] at h

theorem z9Va {b off sz:Nat} {cs:List (List Value)} {as:List (List z2a)} (hl:as.length=cs.length) (hsz:∀(i:Nat) c,cs[i]? =some c→c.length=sz)
  (hc:∀(i:Nat) c,cs[i]? =some c→∀j,j<sz→W.cell? ⟨b,off+i*sz+j,none⟩=c[j]?) (hr:∀(i:Nat) a c,as[i]? =some a→cs[i]? =some c→z5c K.toCon (z88 W) W a c):
  z1d K.toCon (z88 W) W as.flatten b off:=by
 induction as generalizing cs off with
 |nil=>simp[z1d]
 |cons a as ih=>
  cases cs with
  |nil=>simp at hl
  |cons c cs=>
   have h0:=hr 0 a c rfl rfl
   have hlen:=h0.len
   have hcs:=hsz 0 c rfl
   have hrest:=ih (off:=off+sz) (cs:=cs) (by simpa using hl) (fun i c hi=>hsz (i+1) c (by simpa using hi)) (fun i c hi j hj=>by
    have:=hc (i+1) c (by simpa using hi) j hj
    rw[Nat.add_mul,Nat.one_mul] at this
    rw[←this]
    congr 2
    omega) (fun i a c hi hi'=>hr (i+1) a c (by simpa using hi) (by simpa using hi'))
   rw[List.flatten_cons]
   refine z1d.mk fun i d hd=> ?_
   rcases Nat.lt_or_ge i a.length with h|h
   ·rw[List.getElem?_append_left h] at hd
    obtain⟨v,hv,hp⟩:=h0.get i d hd
    have hcell:=hc 0 c rfl i (by omega)
    rw[Nat.zero_mul,Nat.add_zero,hv] at hcell
    exact⟨z2Ha hcell,v,hcell,hp⟩
   ·rw[List.getElem?_append_right h] at hd
    have:=hrest.get _ d hd
    rw[show off+sz+(i-a.length)=off+i by omega] at this
    exact this

theorem z8S {α β:Type} {R:α→β→Prop}:∀(l:List α),(∀x∈l,∃y,R x y)→∃r:List β,r.length=l.length∧∀(i:Nat) x y,l[i]? =some x→r[i]? =some y→R x y
 |[],_=>⟨[],rfl,fun i x y h=>by simp at h⟩
 |x::l,h=>by
  obtain⟨y,hy⟩:=h x (by simp)
  obtain⟨r,h1,h2⟩:=z8S l fun z hz=>h z (by simp[hz])
  refine⟨y::r,by simp[h1],fun i a b ha hb=> ?_⟩
  cases i with
  |zero=>simp at ha hb;subst ha;subst hb;exact hy
  |succ i=>exact h2 i a b (by simpa using ha) (by simpa using hb)

theorem z35a {α β:Type} {f:α→Nat} {g:β→Nat}:∀{l:List α} {r:List β},l.length=r.length→(∀(i:Nat) a b,l[i]? =some a→r[i]? =some b→f a≤g b)→(l.map f).sum≤(r.map g).sum
 |[],[],_,_=>by simp
 |[],_::_,h,_=>by simp at h
 |_::_,[],h,_=>by simp at h
 |x::l,y::r,h,hi=>by
  have h1:=hi 0 x y rfl rfl
  have h2:=z35a (l:=l) (r:=r) (by simpa using h) fun i a b ha hb=>hi (i+1) a b (by simpa using ha) (by simpa using hb)
  simp only[List.map_cons,List.sum_cons]
  omega
theorem z9ga (l:List (List z2a)):wtL l.flatten=(l.map wtL).sum:=by
 induction l with
 |nil=>simp[wtL]
 |cons x l ih=>simp[z7la,ih]

theorem z42a {sp:Nat→Bool} {fuel:Nat} {e:GT} {t:TypeId} (sz:Nat)
  (one:∀(cs:List Value) d p,DataW.trod enc K.P W 0 sp true fuel t cs=some (d,p)→∃as,e.has as∧z5c K.toCon (z88 W) W as cs∧wtL as≤B d)
  {css:List (List Value)} {xs:List (DataW H×List MemPlace)} (hlen:xs.length=css.length) (hx:∀(i:Nat) c,css[i]? =some c→DataW.trod enc K.P W 0 sp true fuel t c=xs[i]?):
  ∃ess:List (List z2a),ess.length=css.length∧(∀c∈ess,e.has c)∧(∀(i:Nat) a c,ess[i]? =some a→css[i]? =some c→z5c K.toCon (z88 W) W a c)∧wtL ess.flatten≤((xs.map (·.1)).map B).sum:=by
 obtain⟨ess,h1,h2⟩:=z8S (R:=fun(i:Nat) (as:List z2a)=>∃c x,css[i]? =some c∧xs[i]? =some x∧e.has as∧z5c K.toCon (z88 W) W as c∧wtL as≤B x.1) (List.range css.length) fun i hi=>by
  have hi:i<css.length:=by simpa using hi
  have hc:css[i]? =some css[i]:=List.getElem?_eq_getElem hi
  have hxi:xs[i]? =some xs[i]:=List.getElem?_eq_getElem (by omega)
  have:=hx i _ hc
  rw[hxi] at this
  obtain⟨as,k1,k2,k3⟩:=one _ xs[i].1 xs[i].2 this
  exact⟨as,_,_,hc,hxi,k1,k2,k3⟩
 have hl1:ess.length=css.length:=by simpa using h1
 have g:∀(i:Nat) a,ess[i]? =some a→∃c x,css[i]? =some c∧xs[i]? =some x∧e.has a∧z5c K.toCon (z88 W) W a c∧wtL a≤B x.1:=fun i a ha=>by
  have hi:i<ess.length:=(List.getElem?_eq_some_iff.1 ha).1
  exact h2 i i a (List.getElem?_range (by omega)) ha
 refine⟨ess,hl1,fun a ha=> ?_,fun i a c ha hc=> ?_,?_⟩
 ·obtain⟨i,hi,rfl⟩:=List.getElem_of_mem ha
  obtain⟨_,_,_,_,k,_⟩:=g i _ (List.getElem?_eq_getElem hi)
  exact k
 ·obtain⟨c',_,k1,_,_,k2,_⟩:=g i a ha
  rw[hc] at k1
  cases k1
  exact k2
 ·rw[z9ga,List.map_map]
  refine z35a (by omega) fun i a x ha hxi=> ?_
  obtain⟨_,x',_,k1,_,_,k2⟩:=g i a ha
  rw[hxi] at k1
  cases k1
  exact k2

mutual
theorem read (hB:z61b B) (hl:laidOutB K.P=true) {sp:Nat→Bool}:∀(gt:GT) (fuel:Nat) (t:TypeId) (cs:List Value) (d:DataW H) (p:List MemPlace),DataW.trod enc K.P W 0 sp true fuel t cs=some (d,p)→gt.fits K.P t=true→t<K.P.types.size→
  (∀b,sp b=true)→∃as,gt.has as∧z5c K.toCon (z88 W) W as cs∧wtL as≤B d
 |gt,0,t,cs,d,p,h,_,_,_=>by simp[DataW.trod] at h
 | .bool,fuel+1,t,cs,d,p,h,hf,ht,hs=>by
  simp only[GT.fits] at hf
  split at hf
  ·rename_i hu
   simp only[DataW.trod,hu] at h
   split at h<;>simp_all
   obtain⟨rfl,rfl⟩:=h
   rename_i b
   exact⟨[.lit (.bool b)],⟨b,rfl⟩,by simp[z5c,z2c],by have:=hB.lit (.bool b);simpa[wtL,wt] using this⟩
  ·cases hf
 | .int k,fuel+1,t,cs,d,p,h,hf,ht,hs=>by
  simp only[GT.fits] at hf
  split at hf
  ·rename_i k' hu
   simp only[beq_iff_eq] at hf
   subst hf
   obtain⟨n,rfl,hx,hw⟩:=DataW.trod_int hu h
   cases hx
   simp only[Lit.wf,Bool.and_eq_true,decide_eq_true_eq] at hw
   exact⟨_,⟨n,rfl,hw.1,hw.2⟩,by simp[z5c,z2c],by have:=hB.lit (.int k n);simpa[wtL,wt] using this⟩
  ·cases hf
 | .str,fuel+1,t,cs,d,p,h,hf,ht,hs=>by
  simp only[GT.fits] at hf
  split at hf
  ·rename_i hu
   obtain⟨s,rfl,hx,hw⟩:=DataW.trod_string hu h
   cases hx
   refine⟨[.lit (.string s)],⟨s,rfl,hw⟩,by simp only[z5c,z2c];exact⟨_,_,rfl,rfl,rfl⟩,?_⟩
   have:=hB.str s.data.toList
   have e:s.data.toList.length=s.size:=Array.length_toList
   simp only[wtL,wt]
   omega
  ·cases hf
 | .sl e,fuel+1,t,cs,d,p,h,hf,ht,hs=>by
  simp only[GT.fits] at hf
  split at hf
  ·rename_i t' hu
   simp only[Bool.and_eq_true,bne_iff_ne,ne_eq] at hf
   obtain⟨hf,hz⟩:=hf
   have ht':=kid_slice hl ht hu
   simp only[DataW.trod,hu] at h
   have nilc:cs=[.slice none 0 0]→d= .nil→∃as,(GT.sl e).has as∧z5c K.toCon (z88 W) W as cs∧wtL as≤B d:=by
    rintro rfl rfl
    refine⟨[.sl .plain none 0 []],⟨[],by simp,rfl,Nat.zero_le _⟩,by simp only[z5c,z2c];exact⟨_,_,rfl,.inr ⟨none,by simp⟩,rfl⟩,?_⟩
    have:=hB.nil
    simpa[wtL,wt] using this
   split at h
   all_goals (try (simp only[reduceCtorEq,Option.some.injEq,TypeDesc.slice.injEq,Prod.mk.injEq] at h))
   all_goals (try (rename_i hh;simp only[reduceCtorEq,Option.some.injEq,TypeDesc.slice.injEq] at hh))
   ·exact nilc rfl h.1.symm
   ·subst hh
    rename_i a len cap
    split at h
    ·rename_i hb
     obtain⟨hb0,hlc,hcap⟩:=hb
     simp only[Option.bind_eq_some_iff,Option.map_eq_some_iff] at h
     obtain⟨elems,hel,rest,hrest,hd⟩:=h
     cases hd
     have hlen:=mapM_some_length hel
     cases hsp:a.spot with
     |some s0=>
      rw[if_pos (hs _)] at hrest
      have bad:∀x,((W.cells? 0 (a.add (0*K.P.cellsOf t')) (K.P.cellsOf t')).bind (DataW.trod enc K.P W 0 sp true fuel t'))=some x→False:=fun x hx=>by
       obtain⟨c,h2,_⟩:=Option.bind_eq_some_iff.1 hx
       obtain⟨_,h3,h4⟩:=World.cells?_some h2
       have:=h4 0 (by omega)
       have h5:W.cell? ((a.add (0*K.P.cellsOf t')).add 0)=none:=by
        unfold World.cell?
        split
        ·rw[if_pos (by simp[Addr.add,hsp,Nat.zero_mul])]
        ·rfl
       rw[h5] at this
       have h6:=List.getElem?_eq_none_iff.1 this.symm
       omega
      have hc0:cap=0:=by
       rcases Nat.eq_zero_or_pos cap with h0|h0
       ·exact h0
       ·exfalso
        rcases Nat.eq_zero_or_pos len with hl0|hl0
        ·have h1:=mapM_some_get hrest 0 0 (List.getElem?_range (by omega))
         cases hr:rest[0]? with
         |none=>
          have:=mapM_some_length hrest
          have h7:=List.getElem?_eq_none_iff.1 hr
          simp at this
          omega
         |some x=>rw[hr] at h1;exact bad x (by simpa[hl0] using h1)
        ·have h1:=mapM_some_get hel 0 0 (List.getElem?_range (by omega))
         cases hr:elems[0]? with
         |none=>
          have h7:=List.getElem?_eq_none_iff.1 hr
          simp at hlen
          omega
         |some x=>rw[hr] at h1;exact bad x h1
      have hl0:len=0:=by omega
      subst hc0 hl0
      refine⟨[.sl .plain none 0 []],⟨[],by simp,rfl,Nat.zero_le _⟩,by simp only[z5c,z2c];exact⟨_,_,rfl,.inr ⟨some a,by simp⟩,rfl⟩,?_⟩
      have:=hB.slice (elems.map (·.1)) (rest.map (·.1))
      simp only[wtL,wt]
      omega
     |none=>
     obtain⟨b,off,spot⟩:=a
     simp only at hsp
     subst hsp
     have hget:∀i,i<len→∃c,W.cells? 0 ((⟨b,off,none⟩:Addr).add (i*K.P.cellsOf t')) (K.P.cellsOf t')=some c∧DataW.trod enc K.P W 0 sp true fuel t' c=elems[i]? :=fun i hi=>by
      have h1:=mapM_some_get hel i i (by simp[hi])
      have hi':i<elems.length:=by rw[hlen];simpa using hi
      rw[List.getElem?_eq_getElem hi'] at h1
      obtain⟨c,h2,h3⟩:=Option.bind_eq_some_iff.1 h1
      exact⟨c,h2,by rw[h3,List.getElem?_eq_getElem hi']⟩
     obtain⟨css,hcl,hcs⟩:=z8S (R:=fun(i:Nat) (c:List Value)=>W.cells? 0 ((⟨b,off,none⟩:Addr).add (i*K.P.cellsOf t')) (K.P.cellsOf t')=some c∧DataW.trod enc K.P W 0 sp true fuel t' c=elems[i]?) (List.range len) (fun i hi=>hget i (by simpa using hi))
     simp only[List.length_range] at hcl hlen
     have hcs':∀(i:Nat) c,css[i]? =some c→W.cells? 0 ((⟨b,off,none⟩:Addr).add (i*K.P.cellsOf t')) (K.P.cellsOf t')=some c∧DataW.trod enc K.P W 0 sp true fuel t' c=elems[i]? :=fun i c hc=>by
      have hi:i<css.length:=(List.getElem?_eq_some_iff.1 hc).1
      exact hcs i i c (List.getElem?_range (by omega)) hc
     obtain⟨ess,k1,k2,k3,k4⟩:=z42a (K.P.cellsOf t') (fun c d p hh=>read hB hl e fuel t' c d p hh hf ht' hs) (css:=css) (xs:=elems) (by omega) (fun i c hc=>(hcs' i c hc).2)
     refine⟨_,⟨ess,k2,rfl,by omega⟩,?_,?_⟩
     ·simp only[z5c,z2c]
      refine⟨_,_,rfl,.inl ⟨b,off,cap,by rw[k1,hcl],by omega,?_,by simp,by simp⟩,rfl⟩
      refine z9Va (cs:=css) (sz:=K.P.cellsOf t') k1 (fun i c hc=>(World.cells?_some (hcs' i c hc).1).2.1) (fun i c hc j hj=> ?_) k3
      have:=(World.cells?_some (hcs' i c hc).1).2.2 j hj
      rw[←this,Addr.add_mid,Addr.add_mid]
     ·have:=hB.slice (elems.map (·.1)) (rest.map (·.1))
      simp only[wtL,wt]
      omega
    ·cases h
   all_goals simp_all
  ·cases hf
 | .arr n e,fuel+1,t,cs,d,p,h,hf,ht,hs=>by
  simp only[GT.fits] at hf
  split at hf
  ·rename_i n' t' hu
   simp only[Bool.and_eq_true,beq_iff_eq] at hf
   obtain⟨rfl,hf⟩:=hf
   obtain⟨ht',hct⟩:=kid_array hl ht hu
   simp only[DataW.trod,hu] at h
   split at h
   ·rename_i hlen
    simp only[Option.map_eq_some_iff] at h
    obtain⟨xs,hm,hd⟩:=h
    cases hd
    have hxl:=mapM_some_length hm
    simp only[List.length_range] at hxl
    let css:=(List.range n).map fun i=>(cs.drop (i*K.P.cellsOf t')).take (K.P.cellsOf t')
    have hcss:∀(i:Nat) c,css[i]? =some c→i<n∧c=(cs.drop (i*K.P.cellsOf t')).take (K.P.cellsOf t'):=fun i c hc=>by
     simp only[css,List.getElem?_map,Option.map_eq_some_iff] at hc
     obtain⟨j,hj,rfl⟩:=hc
     obtain⟨h1,h2⟩:=List.getElem?_eq_some_iff.1 hj
     simp only[List.length_range] at h1
     simp only[List.getElem_range] at h2
     subst h2
     exact⟨h1,rfl⟩
    obtain⟨ess,h1,h2⟩:=z8S (R:=fun(i:Nat) (as:List z2a)=>∃c x,css[i]? =some c∧xs[i]? =some x∧e.has as∧z5c K.toCon (z88 W) W as c∧wtL as≤B x.1) (List.range n) fun i hi=>by
     have hi:i<n:=by simpa using hi
     have hc:css[i]? =some ((cs.drop (i*K.P.cellsOf t')).take (K.P.cellsOf t')):=by simp[css,hi]
     have hxi:xs[i]? =some xs[i]:=List.getElem?_eq_getElem (by omega)
     have:=mapM_some_get hm i i (by simp[hi])
     rw[hxi] at this
     obtain⟨as,k1,k2,k3⟩:=read hB hl e fuel t' _ xs[i].1 xs[i].2 this hf ht' hs
     exact⟨as,_,_,hc,hxi,k1,k2,k3⟩
    have hl1:ess.length=n:=by simpa using h1
    have g:∀(i:Nat) a,ess[i]? =some a→∃c x,css[i]? =some c∧xs[i]? =some x∧e.has a∧z5c K.toCon (z88 W) W a c∧wtL a≤B x.1:=fun i a ha=>by
     have hi:i<ess.length:=(List.getElem?_eq_some_iff.1 ha).1
     exact h2 i i a (List.getElem?_range (by omega)) ha
    refine⟨_,⟨ess,hl1,fun a ha=> ?_,rfl⟩,?_,?_⟩
    ·obtain⟨i,hi,rfl⟩:=List.getElem_of_mem ha
     obtain⟨_,_,_,_,k,_⟩:=g i _ (List.getElem?_eq_getElem hi)
     exact k
    ·have flat:∀(k:Nat) (l:List (List z2a)),(∀(i:Nat) a,l[i]? =some a→z5c K.toCon (z88 W) W a ((cs.drop ((k+i)*K.P.cellsOf t')).take (K.P.cellsOf t')))→k+l.length=n→z5c K.toCon (z88 W) W l.flatten (cs.drop (k*K.P.cellsOf t')):=by
      intro k l
      induction l generalizing k with
      |nil=>
       intro _ hk
       simp only[List.length_nil,Nat.add_zero] at hk
       rw[hk,List.drop_of_length_le (by omega)]
       simp[z5c]
      |cons a l ih=>
       intro hi hk
       have h0:=hi 0 a rfl
       have hr:=ih (k+1) (fun i a ha=>by
        have:=hi (i+1) a (by simpa using ha)
        rwa[show k+(i+1)=k+1+i by omega] at this) (by simp at hk;omega)
       rw[Nat.add_zero] at h0
       have e1:cs.drop (k*K.P.cellsOf t')=(cs.drop (k*K.P.cellsOf t')).take (K.P.cellsOf t')++cs.drop ((k+1)*K.P.cellsOf t'):=by
        rw[Nat.add_mul,Nat.one_mul,←List.drop_drop,List.take_append_drop]
       rw[e1,List.flatten_cons]
       exact z5c.app h0 hr
     have:=flat 0 ess (fun i a ha=>by
      obtain⟨c,_,k1,_,_,k2,_⟩:=g i a ha
      rw[Nat.zero_add]
      rwa[(hcss i c k1).2] at k2) (by omega)
     simpa using this
    ·rw[z9ga]
     refine Nat.le_trans ?_ (hB.agg (xs.map (·.1)))
     rw[List.map_map]
     refine z35a (by omega) fun i a x ha hxi=> ?_
     obtain⟨_,x',_,k1,_,_,k2⟩:=g i a ha
     rw[hxi] at k1
     cases k1
     exact k2
   ·cases h
  ·cases hf
 | .st fs,fuel+1,t,cs,d,p,h,hf,ht,hs=>by
  simp only[GT.fits] at hf
  split at hf
  ·rename_i F hu
   obtain⟨h1,h2,h3⟩:=kid_struct hl ht hu
   simp only[DataW.trod,hu] at h
   split at h
   ·rename_i hlen
    simp only[Option.map_eq_some_iff] at h
    obtain⟨xs,hm,hd⟩:=h
    cases hd
    obtain⟨as,k1,k2,k3⟩:=z7qc hB hl fs F.toList 0 fuel cs xs hm hf h1 (fun j f hj=>by rw[h3 j f hj,Nat.zero_add]) hs (by rw[Nat.zero_add,←h2,hlen];exact Nat.le_refl _)
    refine⟨as,k1,?_,Nat.le_trans k3 (hB.agg _)⟩
    rw[List.drop_zero,List.take_of_length_le (by omega)] at k2
    exact k2
   ·cases h
  ·cases hf
theorem z7qc (hB:z61b B) (hl:laidOutB K.P=true) {sp:Nat→Bool}:∀(gs:List GT) (F:List Field) (off:Nat) (fuel:Nat) (cs:List Value) (xs:List (DataW H×List MemPlace)),
  F.mapM (fun f=>DataW.trod enc K.P W 0 sp true fuel f.type ((cs.drop f.offset).take (K.P.cellsOf f.type)))=some xs→GT.fitsL K.P gs (F.map (·.type))=true→(∀f∈F,f.type<K.P.types.size)→
  (∀(j:Nat) f,F[j]? =some f→f.offset=off+((F.take j).map fun f=>K.P.cellsOf f.type).sum)→(∀b,sp b=true)→off+(F.map fun f=>K.P.cellsOf f.type).sum≤cs.length→
  ∃as,GT.hasL gs as∧z5c K.toCon (z88 W) W as ((cs.drop off).take (F.map fun f=>K.P.cellsOf f.type).sum)∧wtL as≤((xs.map (·.1)).map B).sum
 |[],[],off,fuel,cs,xs,hm,hf,ht,ho,hs,hc=>by
  simp at hm
  subst hm
  exact⟨[],by simp[GT.hasL],by simp[z5c],by simp[wtL]⟩
 |[],_::_,off,fuel,cs,xs,hm,hf,ht,ho,hs,hc=>by simp[GT.fitsL] at hf
 |_::_,[],off,fuel,cs,xs,hm,hf,ht,ho,hs,hc=>by simp[GT.fitsL] at hf
 |g::gs,f::F,off,fuel,cs,xs,hm,hf,ht,ho,hs,hc=>by
  simp only[List.map_cons,GT.fitsL,Bool.and_eq_true] at hf
  simp only[List.mapM_cons,Option.bind_eq_bind,Option.bind_eq_some_iff,Option.pure_def,Option.some.injEq] at hm
  obtain⟨x,hx,xs',hm',rfl⟩:=hm
  have h0:=ho 0 f rfl
  simp only[List.take_zero,List.map_nil,List.sum_nil,Nat.add_zero] at h0
  simp only[List.map_cons,List.sum_cons] at hc
  obtain⟨as,k1,k2,k3⟩:=read hB hl g fuel f.type _ x.1 x.2 hx hf.1 (ht f (by simp)) hs
  obtain⟨bs,m1,m2,m3⟩:=z7qc hB hl gs F (off+K.P.cellsOf f.type) fuel cs xs' hm' hf.2 (fun f' hf'=>ht f' (by simp[hf'])) (fun j f' hj=>by
   have:=ho (j+1) f' (by simpa using hj)
   simp only[List.take_succ_cons,List.map_cons,List.sum_cons] at this
   omega) hs (by omega)
  refine⟨as++bs,⟨as,bs,rfl,k1,m1⟩,?_,?_⟩
  ·rw[h0] at k2
   rw[List.map_cons,List.sum_cons,List.take_add,List.drop_drop]
   exact z5c.app k2 m2
  ·rw[z7la]
   simp only[List.map_cons,List.sum_cons]
   omega
end
end
end Go.Abs
end

section
namespace Go.Abs
open Go.RowKit Go.WideShapes Go.ChangeShapes

def GT.row:GT→Bool
 | .arr _ _=>true
 | .st _=>true
 |_=>false
def GT.top (g:GT) (cs:List z2a):z2a:=if g.row then .agg cs else cs.headD .undef
def z67b:List GT→List z2a→Prop
 |[],as=>as=[]
 |g::gs,as=>∃cs r,as=g.top cs::r∧g.has cs∧z67b gs r

section
variable {H : Type} {enc : TypeId × Value → H} {K : Cx} {W : World} {B : DataW H → Nat}

theorem z9ib (hB:z61b B) (hl:laidOutB K.P=true) {sp:Nat→Bool} {base:Nat} {g:GT} {t:TypeId} {v:Value} {d:DataW H} {p:List MemPlace} (hok:Value.okWide K.P W .any base t v)
  (h:DataW.Trod enc K.P W 0 sp true t v d p) (hf:g.fits K.P t=true) (ht:t<K.P.types.size) (hs:∀b,sp b=true):∃cs,g.has cs∧z2c K.toCon (z88 W) W (g.top cs) v∧wtL cs≤B d:=by
 obtain⟨fuel,h⟩:=h
 have row:g.row=true→(∃a,v= .agg a)→∃cs,g.has cs∧z2c K.toCon (z88 W) W (g.top cs) v∧wtL cs≤B d:=by
  rintro hr ⟨a,rfl⟩
  obtain⟨cs,k1,k2,k3⟩:=read hB hl g fuel t _ d p h hf ht hs
  refine⟨cs,k1,?_,k3⟩
  rw[GT.top,if_pos hr]
  simp only[z2c]
  exact⟨a,rfl,k2⟩
 have one:g.row=false→v.cells= #[v]→∃cs,g.has cs∧z2c K.toCon (z88 W) W (g.top cs) v∧wtL cs≤B d:=by
  intro hr hc
  rw[hc] at h
  obtain⟨cs,k1,k2,k3⟩:=read hB hl g fuel t _ d p h hf ht hs
  refine⟨cs,k1,?_,k3⟩
  rw[GT.top,if_neg (by simp[hr])]
  cases cs with
  |nil=>simp[z5c] at k2
  |cons c r=>
   simp only[z5c] at k2
   obtain⟨x,xs,e,k4,_⟩:=k2
   simp only[List.cons.injEq] at e
   rw[e.1]
   exact k4
 cases g with
 |bool=>
  simp only[GT.fits] at hf
  split at hf
  ·rename_i hu
   obtain⟨b,rfl⟩:=okWide_bool hu hok
   exact one rfl rfl
  ·cases hf
 |int k=>
  simp only[GT.fits] at hf
  split at hf
  ·rename_i k' hu
   obtain⟨b,rfl⟩:=okWide_int hu hok
   exact one rfl rfl
  ·cases hf
 |str=>
  simp only[GT.fits] at hf
  split at hf
  ·rename_i hu
   obtain⟨b,rfl⟩:=okWide_string hu hok
   exact one rfl rfl
  ·cases hf
 |sl e=>
  simp only[GT.fits] at hf
  split at hf
  ·rename_i t' hu
   obtain⟨a,n,c,rfl⟩:=okWide_slice hu hok
   exact one rfl rfl
  ·cases hf
 |arr n e=>
  simp only[GT.fits] at hf
  split at hf
  ·rename_i n' t' hu
   have hok':=hok
   simp only[Value.okWide,hu] at hok'
   obtain⟨cs,rfl,_,h3⟩:=hok'
   exact row rfl ⟨cs,rfl⟩
  ·cases hf
 |st fs=>
  simp only[GT.fits] at hf
  split at hf
  ·rename_i F hu
   have hok':=hok
   simp only[Value.okWide,hu] at hok'
   obtain⟨cs,rfl,_,h3⟩:=hok'
   exact row rfl ⟨cs,rfl⟩
  ·cases hf

theorem z0Ea (hB:z61b B) (hl:laidOutB K.P=true) {sp:Nat→Bool} {base:Nat}:∀(gs:List GT) (ts:List TypeId) (vs:List Value) (ds:List (DataW H)) (p:List MemPlace),
  DataW.TrodAll enc K.P W 0 sp true ts vs ds p→(∀(j:Nat) t v,ts[j]? =some t→vs[j]? =some v→Value.okWide K.P W .any base t v)→GT.fitsL K.P gs ts=true→(∀t∈ts,t<K.P.types.size)→(∀b,sp b=true)→
  ∃as,z67b gs as∧z5c K.toCon (z88 W) W as vs∧wtL as≤(ds.map B).sum
 |[],[],vs,ds,p,h,_,_,_,_=>by
  obtain⟨rfl,rfl,rfl⟩:=trodAll_nil h
  exact⟨[],by simp[z67b],by simp[z5c],by simp[wtL]⟩
 |[],_::_,_,_,_,_,_,hf,_,_=>by simp[GT.fitsL] at hf
 |_::_,[],_,_,_,_,_,hf,_,_=>by simp[GT.fitsL] at hf
 |g::gs,t::ts,vs,ds,p,h,hok,hf,ht,hs=>by
  obtain⟨v,vs',d,ds',p',q,rfl,rfl,rfl,h0,hr⟩:=trodAll_cons h
  simp only[GT.fitsL,Bool.and_eq_true] at hf
  obtain⟨cs,k1,k2,k3⟩:=z9ib hB hl (hok 0 t v rfl rfl) h0 hf.1 (ht t (by simp)) hs
  obtain⟨as,m1,m2,m3⟩:=z0Ea hB hl gs ts vs' ds' q hr (fun j t v h1 h2=>hok (j+1) t v (by simpa using h1) (by simpa using h2)) hf.2 (fun t h=>ht t (by simp[h])) hs
  refine⟨g.top cs::as,⟨cs,as,rfl,k1,m1⟩,?_,?_⟩
  ·simp only[z5c]
   exact⟨v,vs',rfl,k2,m2⟩
  ·have:wt (g.top cs)≤wtL cs:=by
    unfold GT.top
    split
    ·simp[wt]
    ·cases cs with
     |nil=>
      have:z2c K.toCon (z88 W) W (g.top []) v:=k2
      cases g<;>simp_all [GT.has,GT.row]
     |cons c r=>simp[wtL]
   simp only[wtL,List.map_cons,List.sum_cons]
   omega
end

theorem z5ua {H:Type} {enc:TypeId×Value→H} {P:Program} {f:Func} {s:ChangeSpec} {apart fresh handsOn again:Bool} {W W':World} {args:Array Value} {v:Value} {ds gs:List (DataW H)} {before pa pv:List MemPlace}
  (hW:DataW.Whole enc P f.params.toList s.vars apart W args.toList ds gs before)
  (hres:∀(b:Nat) (sp:Nat→Bool) (hd:Bool),DataW.TrodAll enc P W' b sp hd f.resultTypes.toList (v.resultList f.resultTypes.size) (s.fn H (ds++gs)).results [])
  (hargs:∀sp:Nat→Bool,(∀p∈before,sp p.block=true)→DataW.TrodAll enc P W' 0 sp true f.params.toList args.toList (s.fn H (ds++gs)).args pa)
  (hvars:∀sp:Nat→Bool,(∀p∈before,sp p.block=true)→DataW.TrodVars enc P W' sp s.vars (s.fn H (ds++gs)).vars pv)
  (hps:before=pa++pv) (hb:Below W.heap.size W W')
  (hok:∀(j:Nat) (t:TypeId) (r:Value),f.resultTypes[j]? =some t→(v.resultList f.resultTypes.size)[j]? =some r→Value.okWide P W' .any 0 t r):
  s.post enc P f apart fresh handsOn again W args v W':=by
 have hlt:∀p∈before,p.block<W.heap.size:=fun p hp=>hW.lt p hp
 have hold:∀p∈before,(fun b=>decide (b<W.heap.size)) p.block=true:=fun p hp=>by simpa using hlt p hp
 refine⟨ds,gs,before,[],pa,pv,hW,hres _ _ _,hargs _ hold,hvars _ hold,World.keptBut_mono (fun p hp=>⟨hp,?_⟩) (hb.frame (· ∈before)),fun _=> ?_⟩
 ·rw[hps,List.mem_append] at hp
  exact Or.inr hp
 ·obtain⟨_,_,_,_,_,hz,hn⟩:=hW
  refine⟨hok,_,_,([]++pa)++pv,⟨[]++pa,pv,trodAll_append (hargs _ (fun _ _=>rfl)) (hres _ _ _),hvars _ (fun _ _=>rfl),rfl,?_,?_⟩,?_⟩
  ·intro b off hp
   have hin:MemPlace.cell b off∈before:=by rw[hps];simpa using hp
   rw[hb.frozen (hlt _ hin)]
   exact hz b off hin
  ·intro ha
   have:=hn ha
   rw[hps] at this
   simpa using this
  ·intro p hp _
   rw[hps]
   simpa using hp

section
variable {H : Type} {enc : TypeId × Value → H} {K : Cx} {B : DataW H → Nat}

theorem z4ya (hl:laidOutB K.P=true) {W W':World} (hb:Below W.heap.size W W') {sp:Nat→Bool}:∀(ts:List TypeId) (vs:List Value) (ds:List (DataW H)) (p:List MemPlace),
  (∀t∈ts,K.P.readableRec t=true∧t<K.P.types.size)→DataW.TrodAll enc K.P W 0 (fun _=>true) true ts vs ds p→(∀x∈p,x.block<W.heap.size∧sp x.block=true)→DataW.TrodAll enc K.P W' 0 sp true ts vs ds p
 |[],vs,ds,p,_,h,_=>by
  obtain⟨rfl,rfl,rfl⟩:=trodAll_nil h
  exact trodAll_mk0
 |t::ts,vs,ds,p,ht,h,hp=>by
  obtain⟨v,vs',d,ds',p',q,rfl,rfl,rfl,h0,hr⟩:=trodAll_cons h
  obtain⟨h1,h2⟩:=ht t (by simp)
  refine trodAll_cons_mk (WideElems.Trod_stays hl h1 h2 h0 (fun x hx=>hb.same (hp x (by simp[hx])).1) (fun x hx=>(hp x (by simp[hx])).2)) (z4ya hl hb ts vs' ds' q (fun t h=>ht t (by simp[h])) hr (fun x hx=>hp x (by simp[hx])))

theorem z1pb {f:Nat} {fn:Func} {s:ChangeSpec} {c:z4a} {gts:List GT} {tb:TypeId} {W:World} {base:Nat} {args:Array Value} {ds gs:List (DataW H)} {before:List MemPlace}
  (hv:z9e K f c) (hl:laidOutB K.P=true) (hB:z61b B)
  (hts:(fn.params.toList.all fun t=>K.P.readableRec t&&decide (t<K.P.types.size))=true) (hfit:GT.fitsL K.P gts fn.params.toList=true) (hres:fn.resultTypes= #[tb]) (htb:K.P.underlying tb=some .bool)
  (hvars:s.vars=[]) (hspec:∀ds:List (DataW H),ds.length=fn.params.size→s.fn H ds={results:=[.lit (.bool true)],args:=ds})
  (hgl:∀n∈K.N.gs,z1d K.toCon (z88 W) W (K.E.T n) (K.N.gnum n) 0)
  (hpre:∀as,z67b gts as→wtL as≤(ds.map B).sum→c.pre as) (hpost:∀as,c.pre as→c.post as= .lit (.bool true))
  (hval:∀(j:Nat) t v,fn.params[j]? =some t→args[j]? =some v→Value.okWide K.P W .any base t v)
  (hW:DataW.Whole enc K.P fn.params.toList s.vars false W args.toList ds gs before):
  Calls K.P (K.nu f) args W fun e W'=>∃v,e= .returned v∧s.post enc K.P fn false true false false W args v W':=by
 have hW':=hW
 obtain⟨p,q,hA,hV,rfl,hfz,hnd⟩:=hW
 rw[hvars] at hV
 have hgq:gs=[]∧q=[]:=by
  cases gs with
  |nil=>simp only[DataW.TrodVars] at hV;exact⟨rfl,hV⟩
  |cons _ _=>simp only[DataW.TrodVars] at hV
 obtain⟨rfl,rfl⟩:=hgq
 have hts':∀t∈fn.params.toList,K.P.readableRec t=true∧t<K.P.types.size:=fun t ht=>by
  have:=List.all_eq_true.1 hts t ht
  simpa[Bool.and_eq_true] using this
 obtain⟨as,k1,k2,k3⟩:=z0Ea hB hl (base:=base) gts fn.params.toList args.toList ds p hA (fun j t v h1 h2=>hval j t v (by simpa using h1) (by simpa using h2)) hfit (fun t ht=>(hts' t ht).2) (fun _=>rfl)
 have hp:=hpre as k1 k3
 have hc:=hv.2 (z88 W) W as args.toList hgl k2 hp
 rw[Array.toArray_toList] at hc
 refine hc.mono fun e W' ⟨v,g',he,hfr,hrep,_,_⟩=>⟨v,he,?_⟩
 rw[hpost as hp] at hrep
 simp only[Rep] at hrep
 subst hrep
 have hb:Below W.heap.size W W':=⟨hfr.os,hfr.tape,hfr.output,hfr.size,fun k hk=>hfr.block k hk (fun h=>h)⟩
 have hdl:∀(ts:List TypeId) (vs:List Value) (ds:List (DataW H)) (p:List MemPlace),DataW.TrodAll enc K.P W 0 (fun _=>true) true ts vs ds p→ds.length=ts.length:=by
  intro ts
  induction ts with
  |nil=>
   intro vs ds p h
   obtain⟨_,rfl,_⟩:=trodAll_nil h
   rfl
  |cons t ts ih=>
   intro vs ds p h
   obtain⟨v,vs',d,ds',p',q,rfl,rfl,rfl,h0,hr⟩:=trodAll_cons h
   simp[ih _ _ _ hr]
 have hlen:(ds++[]).length=fn.params.size:=by
  rw[List.append_nil,hdl _ _ _ _ hA]
  simp
 have hsp:=hspec (ds++[]) hlen
 refine z5ua hW' (pa:=p) (pv:=[]) (fun b sp hd=> ?_) (fun sp hs=> ?_) (fun sp hs=> ?_) rfl hb ?_
 ·rw[hsp,hres]
  exact trodAll_mk1 (shut_bool htb true)
 ·rw[hsp,List.append_nil]
  exact z4ya hl hb _ _ _ _ hts' hA (fun x hx=>⟨hW'.lt x (by simpa using hx),hs x (by simpa using hx)⟩)
 ·rw[hsp,hvars]
  simp[DataW.TrodVars]
 ·rw[hres]
  intro j t r h1 h2
  have:=ok_one (f:=fn) (v:= .bool true) hres rfl (okWide_bool_mk (P:=K.P) (W':=W') htb true)
  exact this j t r (by rw[hres];exact h1) (by rw[hres];exact h2)
end
end Go.Abs
end

section
namespace Go.Abs
def z3da (n:Nat):List UInt8:=if h:n=0 then [] else UInt8.ofNat n::z3da (n/256)
termination_by n
decreasing_by omega
theorem z8V:z3da 0=[]:=by rw[z3da];simp
theorem z9Y {n:Nat} (h:n≠0):z3da n=UInt8.ofNat n::z3da (n/256):=by rw[z3da];simp[h]
def mag (n:Int):Nat:=(if n<0 then-1-n else n).toNat
def flp (n:Int) (c:UInt8):UInt8:=if n<0 then 255-c else c
def z4Ua (n:Int):List UInt8:=
 flp n (UInt8.ofNat (128+(z3da (mag n)).length))::(z3da (mag n)).reverse.map (flp n)
theorem z59:∀(i n:Nat) (h:i<(z3da n).length),(z3da n)[i]=UInt8.ofNat (n/256^i)
 |0,n,h=>by
  by_cases hn:n=0
  ·subst hn;simp[z8V] at h
  ·simp[z9Y hn]
 |i+1,n,h=>by
  by_cases hn:n=0
  ·subst hn;simp[z8V] at h
  ·simp only[z9Y hn,List.length_cons,Nat.add_lt_add_iff_right] at h⊢
   rw[List.getElem_cons_succ,z59 i (n/256) h,Nat.div_div_eq_div_mul,Nat.pow_succ,Nat.mul_comm]
theorem z7X:∀(k n:Nat),(z3da n).length≤k↔n<256^k
 |0,n=>by
  by_cases hn:n=0
  ·subst hn;simp[z8V]
  ·simp[z9Y hn];omega
 |k+1,n=>by
  by_cases hn:n=0
  ·subst hn;simp[z8V,Nat.pow_pos]
  ·rw[z9Y hn,List.length_cons,Nat.add_le_add_iff_right,z7X k,Nat.div_lt_iff_lt_mul (by decide),Nat.pow_succ]
end Go.Abs
namespace Go.Abs
theorem z3Ea {x:UInt64} {N m:Nat} (hx:x.toNat=N):(0<z1ba x m)↔2^m≤N:=by
 rw[UInt64.lt_iff_toNat_lt]
 show 0<(x.toBitVec>>>m).toNat↔_
 rw[BitVec.toNat_ushiftRight,Nat.shiftRight_eq_div_pow]
 show 0<x.toNat/2^m↔_
 rw[hx,Nat.div_pos_iff]
 have:=Nat.two_pow_pos m
 omega
theorem z4Ma (k:Nat):2^(8*k)=256^k:=by rw[Nat.pow_mul]
theorem z7Ya {x:UInt64} {N m:Nat} (hx:x.toNat=N):(z1ba x m).toUInt8=UInt8.ofNat (N/2^m):=by
 apply UInt8.toNat_inj.1
 rw[UInt64.toNat_toUInt8,UInt8.toNat_ofNat']
 show(x.toBitVec>>>m).toNat% 256=_
 rw[BitVec.toNat_ushiftRight,Nat.shiftRight_eq_div_pow]
 show x.toNat/2^m% 256=_
 rw[hx]
end Go.Abs
end

section
namespace Go.Abs

def z01 (x:UInt32) (n:Nat):UInt32:=z3La x n|||z12 x (32-n)
def z2La (x:UInt32) (k:Int):UInt32:=z12 x (UInt64.ofInt k&&&31).toNat|||z3La x (32-(UInt64.ofInt k&&&31)).toNat
theorem z6lc (x:UInt32):z2La x (-7)=z01 x 7:=UInt32.or_comm _ _
theorem z1Mb (x:UInt32):z2La x (-18)=z01 x 18:=UInt32.or_comm _ _
theorem z6Ib (x:UInt32):z2La x (-17)=z01 x 17:=UInt32.or_comm _ _
theorem z6Pb (x:UInt32):z2La x (-19)=z01 x 19:=UInt32.or_comm _ _
theorem z4gc (x:UInt32):z2La x (-6)=z01 x 6:=UInt32.or_comm _ _
theorem z3Hb (x:UInt32):z2La x (-11)=z01 x 11:=UInt32.or_comm _ _
theorem z3Yb (x:UInt32):z2La x (-25)=z01 x 25:=UInt32.or_comm _ _
theorem z4nc (x:UInt32):z2La x (-2)=z01 x 2:=UInt32.or_comm _ _
theorem z6Lb (x:UInt32):z2La x (-13)=z01 x 13:=UInt32.or_comm _ _
theorem z9Jb (x:UInt32):z2La x (-22)=z01 x 22:=UInt32.or_comm _ _

structure H8 where
 a:UInt32
 b:UInt32
 c:UInt32
 d:UInt32
 e:UInt32
 f:UInt32
 g:UInt32
 h:UInt32
def H8.l (s:H8):List UInt32:=[s.a,s.b,s.c,s.d,s.e,s.f,s.g,s.h]
def H8.of (l:List UInt32):H8:=⟨z3s l 0,z3s l 1,z3s l 2,z3s l 3,z3s l 4,z3s l 5,z3s l 6,z3s l 7⟩
@[simp] theorem H8.of_l (s:H8):H8.of s.l=s:=rfl
@[simp] theorem H8.len (s:H8):s.l.length=8:=rfl
def iv:H8:=⟨1779033703,3144134277,1013904242,2773480762,1359893119,2600822924,528734635,1541459225⟩
def kc:List UInt32:=[1116352408,1899447441,3049323471,3921009573,961987163,1508970993,2453635748,2870763221,3624381080,310598401,607225278,1426881987,1925078388,2162078206,2614888103,3248222580,3835390401,4022224774,264347078,604807628,770255983,1249150122,1555081692,1996064986,2554220882,2821834349,2952996808,3210313671,3336571891,3584528711,113926993,338241895,666307205,773529912,1294757372,1396182291,1695183700,1986661051,2177026350,2456956037,2730485921,2820302411,3259730800,3345764771,3516065817,3600352804,4094571909,275423344,430227734,506948616,659060556,883997877,958139571,1322822218,1537002063,1747873779,1955562222,2024104815,2227730452,2361852424,2428436474,2756734187,3204031479,3329325298]

def z1ib:z4a:=⟨fun ds=>∃x k,ds=[u32 x,i64 k],fun ds=>u32 (z2La (z2Fb (nth ds 0)) (asI (nth ds 1)))⟩
def z6Db:z4a:=⟨fun ds=>∃x i j k,ds=[u32 x,i64 i,i64 j,i64 k],fun ds=>u32 (z2La (z2Fb (nth ds 0)) (W (-asI (nth ds 1)))^^^z2La (z2Fb (nth ds 0)) (W (-asI (nth ds 2)))^^^z2La (z2Fb (nth ds 0)) (W (-asI (nth ds 3))))⟩

def ldw (b:List UInt8) (t:Nat):Nat→UInt32
 |0=>0
 |j+1=>z12 (ldw b t j) 8|||(at8 b (4*t+j)).toUInt32
def sg0 (p:UInt32):UInt32:=z01 p 7^^^z01 p 18^^^z3La p 3
def sg1 (q:UInt32):UInt32:=z01 q 17^^^z01 q 19^^^z3La q 10
def z8cb (b:List UInt8) (t:Nat) (w:List UInt32):UInt32:=
 if t<16 then ldw b t 4 else z3s w (t-16)+sg0 (z3s w (t-15))+z3s w (t-7)+sg1 (z3s w (t-2))
def z5v (b:List UInt8):Nat→List UInt32
 |0=>[]
 |t+1=>z5v b t++[z8cb b t (z5v b t)]
theorem z4z (b:List UInt8):∀t,(z5v b t).length=t
 |0=>rfl
 |t+1=>by simp[z5v,z4z b t]
def z3M:z4a:=⟨fun ds=>∃nl b,b.length=64∧ds=[.sl .plain nl 64 (bys b)],fun ds=> .agg (z3o (z5v (gBs (gCs (nth ds 0))) 64))⟩

def rnd (k w:UInt32) (s:H8):H8:=
 let x:=s.h+(z01 s.e 6^^^z01 s.e 11^^^z01 s.e 25)+((s.e&&&s.f)^^^(~~~s.e&&&s.g))+k+w
 let y:=(z01 s.a 2^^^z01 s.a 13^^^z01 s.a 22)+((s.a&&&s.b)^^^(s.a&&&s.c)^^^(s.b&&&s.c))
 ⟨x+y,s.a,s.b,s.c,s.d+x,s.e,s.f,s.g⟩
def z6oa (w:List UInt32) (s:H8):Nat→H8
 |0=>s
 |t+1=>rnd (z3s kc t) (z3s w t) (z6oa w s t)
def H8.add (s v:H8):H8:=⟨s.a+v.a,s.b+v.b,s.c+v.c,s.d+v.d,s.e+v.e,s.f+v.f,s.g+v.g,s.h+v.h⟩
def z30a (s:H8) (b:List UInt8):H8:=s.add (z6oa (z5v b 64) s 64)
def z1aa:z4a:=⟨fun ds=>∃(s:H8) (nl:Option Bool) (b:List UInt8),b.length=64∧ds=[.agg (z3o s.l),.sl .plain nl 64 (bys b)],fun ds=> .agg (z3o (z30a (H8.of (gWs (gCs (nth ds 0)))) (gBs (gCs (nth ds 1)))).l)⟩

theorem z6Z {t:Nat} (h:t<64):z3k (64-t)=0::z3k (63-t):=by
 rw[show 64-t=(63-t)+1 by omega];rfl
theorem z5fa {α:Type} {a c:List α} {i:Nat} {x y:α} (h:i=a.length):(a++x::c).set i y=a++y::c:=by
 subst h;simp
end Go.Abs
namespace Go.Abs
structure z8t where
 h:H8
 b:List UInt8
 n:UInt64
def scs (s:z8t):List z2a:=z3o s.h.l++(bys s.b++[u64 s.n])
def z8t.v (s:z8t):z2a:= .agg (scs s)
def z8t.of (l:List z2a):z8t:=⟨H8.of (gWs (l.take 8)),gBs ((l.drop 8).take 64),z6Ec (nth l 72)⟩
section cells
variable {s : z8t}
theorem z2D (h:s.b.length=64):(scs s).length=73:=by simp[scs,h]
theorem z3ob (h:s.b.length=64):hdA ((scs s).drop 72)=u64 s.n:=by
 rw[z1lb]
 simp[scs,List.getD,List.getElem?_append,h]
theorem z9Ob (s:z8t):(scs s).take 8=z3o s.h.l:=by simp[scs]
theorem z8Rb (h:s.b.length=64):((scs s).drop 8).take 64=bys s.b:=by
 rw[scs,List.drop_left' (by simp),List.take_left' (by simp[h])]
theorem z5eb (h:s.b.length=64):(scs s).take 73=scs s:=List.take_of_length_le (by rw[z2D h];decide)
@[simp] theorem z0xb (s:z8t):(∀c∈scs s,z9c c)↔True:=by simp[scs,or_imp,forall_and]
@[simp] theorem z6Kb (s:z8t):(∀c∈scs s,z6g c=false)↔True:=by simp[scs,or_imp,forall_and]
@[simp] theorem z8Da (s:z8t):z4h (scs s)=true:=by simp[scs]
@[simp] theorem z3kb (s:z8t):(∀c∈scs s,z1f c=true)↔True:=iff_true_intro ((z1i _).1 (z8Da s))
@[simp] theorem z7Rb (s:z8t):z1b (scs s)=true:=by simp[scs]
@[simp] theorem z9kb (s:z8t):z2l (scs s)=[]:=by simp[scs]
theorem z7wa {x:H8}:splice (scs s) 0 (z3o x.l)=scs {s with h:=x}:=by
 rw[scs,z22 (by simp),z0j (by simp)];rfl
theorem z23a {n:UInt64} (h:s.b.length=64):splice (scs s) 72 [u64 n]=scs {s with n:=n}:=by
 rw[scs,z5X (by simp),z5X (by simp[h])]
 simp[h,scs]
theorem z86a {i:Nat} {xs:List UInt8} (h:s.b.length=64) (hi:i+xs.length≤64):splice (scs s) (8+i) (bys xs)=scs {s with b:=s.b.take i++xs++s.b.drop (i+xs.length)}:=by
 rw[scs,z5X (by simp),z22 (by simp[h];omega)]
 simp only[H8.len,z6Ma,Nat.add_sub_cancel_left,scs]
 rw[splice,z7oa,z8E,z8E,z4ib,z4sa]
theorem z0sa {l:List z2a} (h:s.b.length=64) (hl:l.length=73):splice l 0 (scs s)=scs s:=z0j (by rw[hl,z2D h])
end cells
theorem z1Oa:(z3o (z3k 8)++(bys (z9m 64)++[u64 0])).length=73:=by simp
def z42b (s:z8t) (x:UInt8):z8t:=
 let b':=s.b.set (s.n.toNat% 64) x
 ⟨if s.n.toNat% 64=63 then z30a s.h b' else s.h,b',s.n+1⟩
def z8t.add (s:z8t) (m:List UInt8):z8t:=m.foldl z42b s
theorem z8ib (s:z8t) (x:UInt8):(z42b s x).b.length=s.b.length:=by simp[z42b]
theorem z08 (m:List UInt8):∀s:z8t,(s.add m).b.length=s.b.length:=by
 induction m with
 |nil=>intro s;rfl
 |cons x m ih=>intro s;rw[z8t.add,List.foldl_cons];exact(ih _).trans (z8ib s x)
theorem z3R (s:z8t) (m k:List UInt8):s.add (m++k)=(s.add m).add k:=by simp[z8t.add]
theorem z8t.of_scs (s:z8t) (hb:s.b.length=64):z8t.of (scs s)=s:=by
 have h3:nth (scs s) 72=u64 s.n:=by
  rw[nth,←z1lb,z3ob hb]
 rw[z8t.of,z9Ob,z8Rb hb,h3]
 simp
def z8t.init:z8t:=⟨iv,z9m 64,0⟩
def z5V:z4a:=⟨fun ds=>ds=[],fun _=>z8t.init.v⟩
def z4Na:z4a:=⟨fun ds=>∃(s:z8t) (m:List UInt8),s.b.length=64∧ds=[s.v,st m],fun ds=>((z8t.of (gCs (nth ds 0))).add (gS (nth ds 1))).v⟩

theorem z2ga (s:z8t) (hb:s.b.length=64):∀(j:Nat) (m:List UInt8),m.length=j→s.n.toNat% 64+j≤64→
  s.add m=⟨if s.n.toNat% 64+j=64 then z30a s.h (s.b.take (s.n.toNat% 64)++(m++s.b.drop (s.n.toNat% 64+j))) else s.h,
   s.b.take (s.n.toNat% 64)++(m++s.b.drop (s.n.toNat% 64+j)),s.n+UInt64.ofNat j⟩
 |0,m,hm,h=>by
  have hm':=List.length_eq_zero_iff.1 hm
  subst hm'
  have h1:s.n.toNat% 64<64:=Nat.mod_lt _ (by decide)
  rw[if_neg (by omega)]
  simp[z8t.add]
 |j+1,m,hm,h=>by
  have hne:m≠[]:=fun e=>by rw[e] at hm;simp at hm
  obtain⟨k,x,rfl⟩:∃k x,m=k++[x]:=⟨m.dropLast,m.getLast hne,(List.dropLast_concat_getLast hne).symm⟩
  have hk:k.length=j:=by simp at hm;exact hm
  rw[z3R,z2ga s hb j k hk (by omega),if_neg (by omega)]
  have hn:(s.n+UInt64.ofNat j).toNat% 64=s.n.toNat% 64+j:=by
   rw[UInt64.toNat_add,UInt64.toNat_ofNat']
   omega
  have hset:(s.b.take (s.n.toNat% 64)++(k++s.b.drop (s.n.toNat% 64+j))).set (s.n.toNat% 64+j) x=s.b.take (s.n.toNat% 64)++((k++[x])++s.b.drop (s.n.toNat% 64+(j+1))):=by
   rw[List.drop_eq_getElem_cons (show s.n.toNat% 64+j<s.b.length by omega),←List.append_assoc,z5fa (by simp[hk];omega)]
   simp[Nat.add_assoc]
  simp only[z8t.add,List.foldl_cons,List.foldl_nil,z42b,hn,hset]
  congr 1
  ·by_cases h63:s.n.toNat% 64+j=63
   ·rw[if_pos h63,if_pos (by omega)]
   ·rw[if_neg h63,if_neg (by omega)]
  ·rw[UInt64.add_assoc]
   congr 1
   apply UInt64.toNat_inj.1
   simp
end Go.Abs
end

section
namespace Go.Abs
def z3na (n:Nat):Nat:=(119-n% 64)% 64
def be8 (n:UInt64):Nat→List UInt8
 |0=>[]
 |i+1=>be8 n i++[(z1ba n (56-8*i)).toUInt8]
theorem z76 (n:UInt64):∀i,(be8 n i).length=i
 |0=>rfl
 |i+1=>by simp[be8,z76 n i]
def z2bb (n:UInt64):List UInt8:=(128::z9m (z3na n.toNat))++be8 (8*n) 8
def z0fb (h:H8):Nat→List UInt8
 |0=>[]
 |i+1=>z0fb h i++[(z3La (z3s h.l (i/4)) (24-8*(i% 4))).toUInt8]
theorem z55 (h:H8):∀i,(z0fb h i).length=i
 |0=>rfl
 |i+1=>by simp[z0fb,z55 h i]
def z8t.sum (s:z8t):List UInt8:=z0fb (s.add (z2bb s.n)).h 32
def z61a:z4a:=⟨fun ds=>∃s:z8t,s.b.length=64∧s.n.toNat<1099511627776∧ds=[s.v],fun ds=> .agg (bys (z8t.of (gCs (nth ds 0))).sum)⟩
theorem z5dc {s:z8t} {j:Nat} (h:j<8):hdA ((scs s).drop j)=u32 (z3s s.h.l j):=by
 rw[scs,List.drop_append_of_le_length (by simp;omega),z2ia,hdA]
 rw[show(z3o (s.h.l.drop j)++(bys s.b++[u64 s.n])).headD .undef=hdA (z3o (s.h.l.drop j)) by
  rw[List.drop_eq_getElem_cons (show j<s.h.l.length from h)];rfl]
 exact z4L h
theorem z1Ga (n:Nat):z3na n<64:=Nat.mod_lt _ (by decide)
theorem z8Ha (n:Nat):(n+(z3na n+1))% 64=56:=by unfold z3na;omega
theorem z2ha (k:Nat):z9m k++[0]=z9m (k+1):=by
 simp[z9m,List.replicate_succ']
theorem z0Sa {t n:Nat} (h:t<n):z9m (n-t)=0::z9m (n-1-t):=by
 rw[show n-t=(n-1-t)+1 by omega];rfl
end Go.Abs
namespace Go.Abs
theorem z1kc (m:List UInt8):∀s:z8t,(s.add m).n=s.n+UInt64.ofNat m.length:=by
 induction m with
 |nil=>intro s;simp[z8t.add]
 |cons x m ih=>
  intro s
  have:s.add (x::m)=(z42b s x).add m:=rfl
  rw[this,ih]
  simp only[z42b,List.length_cons]
  rw[UInt64.add_assoc]
  congr 1
  apply UInt64.toNat_inj.1
  simp
  omega
theorem z6ga (m:List UInt8) (s:z8t) (h:s.n.toNat+m.length<18446744073709551616):(s.add m).n.toNat=s.n.toNat+m.length:=by
 rw[z1kc,UInt64.toNat_add,UInt64.toNat_ofNat']
 omega
def sha (l:List UInt8):List UInt8:=(z8t.init.add l).sum
theorem z8Ia (l:List UInt8):(sha l).length=32:=z55 _ 32
theorem z8ca:z8t.init.b.length=64:=by simp[z8t.init]
def z5ra:z4a:=⟨fun ds=>∃(nl:Option Bool) (l:List UInt8),l.length<1099511627776∧ds=[.sl .plain nl l.length (bys l)],fun ds=> .agg (bys (sha (gBs (gCs (nth ds 0)))))⟩
end Go.Abs
end

section
namespace Go.Abs
set_option maxRecDepth 100000
def z0z:z2p:=
 {n:=1,wr:=[],res:=[.cell 2 (some 32) 2],body:=
 .seq (
 .region [2] [.norm [2]] [
 ⟨some 2,none,.alloc 2 (bys (z9m 32))⟩]) (
 .seq (
 .region [2] [.norm [2]] [
 ⟨some 3,none,.call 0 [] []⟩,
 ⟨some 4,none,.mv false (.s 0)⟩,
 ⟨some 5,none,.toStr none (.s 4)⟩,
 ⟨some 6,none,.call 1 [(.s 3),(.s 5)] []⟩,
 ⟨some 7,none,.call 2 [(.s 6)] []⟩,
 ⟨none,none,.store (some 32) 2 false (.s 2) (.s 7)⟩]) (
 .ret))}

def z7r:z2p:=
 {n:=0,wr:=[],res:=[.cell 0 (some 73) 0],body:=
 .seq (
 .region [0] [.norm [0]] [
 ⟨some 0,none,.alloc 0 (z3o (z3k 8)++bys (z9m 64)++[u64 0])⟩]) (
 .seq (
 .region [0] [.norm [0]] [
 ⟨some 1,none,.build [u32 0,u32 0,u32 0,u32 0,u32 0,u32 0,u32 0,u32 0] [(0,1,(.c (u32 1779033703))),(1,1,(.c (u32 3144134277))),(2,1,(.c (u32 1013904242))),(3,1,(.c (u32 2773480762))),(4,1,(.c (u32 1359893119))),(5,1,(.c (u32 2600822924))),(6,1,(.c (u32 528734635))),(7,1,(.c (u32 1541459225)))]⟩,
 ⟨some 2,none,.build (z3o (z3k 8)++bys (z9m 64)++[u64 0]) [(0,8,(.s 1))]⟩,
 ⟨none,none,.store (some 73) 0 false (.s 0) (.s 2)⟩]) (
 .ret))}

def z0l:z2p:=
 {n:=2,wr:=[1],res:=[.cell 4 (some 73) 4],body:=
 .seq (
 .region [1,2,4] [.norm [2,4]] [
 ⟨some 2,none,.box 2 (some 73) false (.s 0)⟩,
 ⟨some 4,none,.alloc 4 (z3o (z3k 8)++bys (z9m 64)++[u64 0])⟩]) (
 .seq (
 .block 0 (
 .loop (
 .seq (
 .seq (
 .region [1,2,4,8] [] [
 ⟨some 7,none,.mv false (.s 1)⟩,
 ⟨some 8,none,.bin .neq (.s 7) (.c (st []))⟩]) (
 .cond (.s 8) (
 .ghost (.keep [1,2,4]) .skip) (
 .ghost (.keep [2,4]) (.exit 0)))) (
 .block 1 (
 .seq (
 .region [1,2,4,5] [.norm [2,4]] [
 ⟨some 9,none,.fieldAddr 72 (.s 2)⟩,
 ⟨some 10,none,.load none (some 2) false (.s 9)⟩,
 ⟨some 11,none,.bin .rem (.s 10) (.c (u64 64))⟩,
 ⟨some 12,none,.toInt .i64 (.s 11)⟩,
 ⟨some 5,none,.mv false (.s 12)⟩]) (
 .seq (
 .region [1,2,4,5,6] [.norm [2,4]] [
 ⟨some 13,none,.fieldAddr 8 (.s 2)⟩,
 ⟨some 14,none,.mv false (.s 5)⟩,
 ⟨some 15,none,.slArr 64 1 (.s 13) (some (.s 14)) none none⟩,
 ⟨some 16,none,.mv false (.s 1)⟩,
 ⟨some 17,none,.copy 1 true 2 none (.s 15) (.s 16)⟩,
 ⟨some 6,none,.mv false (.s 17)⟩]) (
 .seq (
 .region [1,2,4,5,6] [] [
 ⟨some 18,none,.mv false (.s 1)⟩,
 ⟨some 19,none,.mv false (.s 6)⟩,
 ⟨some 20,none,.slStr (.s 18) (some (.s 19)) none⟩,
 ⟨some 1,none,.mv false (.s 20)⟩]) (
 .seq (
 .region [1,2,4,5,6] [.norm [2,4]] [
 ⟨some 21,none,.fieldAddr 72 (.s 2)⟩,
 ⟨some 22,none,.load none (some 2) false (.s 21)⟩,
 ⟨some 23,none,.mv false (.s 6)⟩,
 ⟨some 24,none,.toInt .u64 (.s 23)⟩,
 ⟨some 25,none,.bin .add (.s 22) (.s 24)⟩,
 ⟨some 26,none,.fieldAddr 72 (.s 2)⟩,
 ⟨none,none,.store none 2 false (.s 26) (.s 25)⟩]) (
 .seq (
 .region [1,2,4,30] [] [
 ⟨some 27,none,.mv false (.s 5)⟩,
 ⟨some 28,none,.mv false (.s 6)⟩,
 ⟨some 29,none,.bin .add (.s 27) (.s 28)⟩,
 ⟨some 30,none,.bin .eql (.s 29) (.c (i64 64))⟩]) (
 .cond (.s 30) (
 .region [1,2,4] [.norm [2,4]] [
 ⟨some 31,none,.fieldAddr 0 (.s 2)⟩,
 ⟨some 32,none,.load (some 8) (some 2) false (.s 31)⟩,
 ⟨some 33,none,.fieldAddr 8 (.s 2)⟩,
 ⟨some 34,none,.slArr 64 1 (.s 33) none none none⟩,
 ⟨some 35,none,.call 4 [(.s 32),(.s 34)] [2]⟩,
 ⟨some 36,none,.fieldAddr 0 (.s 2)⟩,
 ⟨none,none,.store (some 8) 2 false (.s 36) (.s 35)⟩]) (
 .ghost (.keep [1,2,4]) .skip))))))))))) (
 .seq (
 .region [4] [.norm [2,4]] [
 ⟨some 37,none,.load (some 73) (some 2) false (.s 2)⟩,
 ⟨none,none,.store (some 73) 4 false (.s 4) (.s 37)⟩]) (
 .ret)))}

def z7k:z2p:=
 {n:=1,wr:=[],res:=[.cell 2 (some 32) 2],body:=
 .seq (
 .region [1,2] [.norm [1,2]] [
 ⟨some 1,none,.box 1 (some 73) false (.s 0)⟩,
 ⟨some 2,none,.alloc 2 (bys (z9m 32))⟩]) (
 .seq (
 .region [1,2,3] [.norm [1,2]] [
 ⟨some 8,none,.fieldAddr 72 (.s 1)⟩,
 ⟨some 9,none,.load none (some 1) false (.s 8)⟩,
 ⟨some 10,none,.bin .mul (.c (u64 8)) (.s 9)⟩,
 ⟨some 3,none,.mv false (.s 10)⟩]) (
 .seq (
 .region [1,2,3,4] [] [
 ⟨some 11,none,.buildSl 1 1 [u8 0] [(0,1,(.c (u8 128)))]⟩,
 ⟨some 4,none,.mv true (.s 11)⟩]) (
 .seq (
 .block 0 (
 .loop (
 .seq (
 .seq (
 .region [1,2,3,4,19] [.norm [1,2]] [
 ⟨some 12,none,.fieldAddr 72 (.s 1)⟩,
 ⟨some 13,none,.load none (some 1) false (.s 12)⟩,
 ⟨some 14,none,.toInt .i64 (.s 13)⟩,
 ⟨some 15,none,.mv false (.s 4)⟩,
 ⟨some 16,none,.len false (.s 15)⟩,
 ⟨some 17,none,.bin .add (.s 14) (.s 16)⟩,
 ⟨some 18,none,.bin .rem (.s 17) (.c (i64 64))⟩,
 ⟨some 19,none,.bin .neq (.s 18) (.c (i64 56))⟩]) (
 .cond (.s 19) (
 .ghost (.keep [1,2,3,4]) .skip) (
 .ghost (.keep [1,2,3,4]) (.exit 0)))) (
 .block 1 (
 .region [1,2,3,4] [] [
 ⟨some 20,none,.mv true (.s 4)⟩,
 ⟨some 21,none,.buildSl 1 1 [u8 0] [(0,1,(.c (u8 0)))]⟩,
 ⟨some 22,none,.append 1 1 false (some false) none 20 (.s 21)⟩,
 ⟨some 4,none,.mv true (.s 22)⟩]))))) (
 .seq (
 .seq (
 .region [1,2,3,4,23] [] [
 ⟨some 23,none,.mv false (.c (i64 0))⟩]) (
 .block 2 (
 .loop (
 .seq (
 .region [1,2,3,4,23,24] [] [
 ⟨some 24,none,.bin .lss (.s 23) (.c (i64 8))⟩]) (
 .seq (
 .cond (.s 24) (
 .ghost (.keep [1,2,3,4,23]) .skip) (
 .ghost (.keep [1,2,4]) (.exit 2))) (
 .seq (
 .block 3 (
 .seq (
 .region [1,2,3,4,5,23] [] [
 ⟨some 25,none,.mv false (.s 23)⟩,
 ⟨some 5,none,.mv false (.s 25)⟩]) (
 .region [1,2,3,4,23] [] [
 ⟨some 26,none,.mv true (.s 4)⟩,
 ⟨some 27,none,.mv false (.s 3)⟩,
 ⟨some 28,none,.mv false (.s 5)⟩,
 ⟨some 29,none,.bin .mul (.c (i64 8)) (.s 28)⟩,
 ⟨some 30,none,.bin .sub (.c (i64 56)) (.s 29)⟩,
 ⟨some 31,none,.bin .shr (.s 27) (.s 30)⟩,
 ⟨some 32,none,.toInt .u8 (.s 31)⟩,
 ⟨some 33,none,.buildSl 1 1 [u8 0] [(0,1,(.s 32))]⟩,
 ⟨some 34,none,.append 1 1 false (some false) none 26 (.s 33)⟩,
 ⟨some 4,none,.mv true (.s 34)⟩]))) (
 .region [1,2,3,4,23] [] [
 ⟨some 35,none,.bin .add (.s 23) (.c (i64 1))⟩,
 ⟨some 23,none,.mv false (.s 35)⟩]))))))) (
 .seq (
 .region [1,2] [.norm [1,2]] [
 ⟨some 36,none,.load (some 73) (some 1) false (.s 1)⟩,
 ⟨some 37,none,.mv true (.s 4)⟩,
 ⟨some 38,none,.toStr none (.s 37)⟩,
 ⟨some 39,none,.call 1 [(.s 36),(.s 38)] []⟩,
 ⟨none,none,.store (some 73) 1 false (.s 1) (.s 39)⟩]) (
 .seq (
 .region [1,2,6] [.norm [1,2,6]] [
 ⟨some 6,none,.alloc 6 (bys (z9m 32))⟩]) (
 .seq (
 .seq (
 .region [1,2,6,40] [] [
 ⟨some 40,none,.mv false (.c (i64 0))⟩]) (
 .block 4 (
 .loop (
 .seq (
 .region [1,2,6,40,41] [] [
 ⟨some 41,none,.bin .lss (.s 40) (.c (i64 32))⟩]) (
 .seq (
 .cond (.s 41) (
 .ghost (.keep [1,2,6,40]) .skip) (
 .ghost (.keep [2,6]) (.exit 4))) (
 .seq (
 .block 5 (
 .seq (
 .region [1,2,6,7,40] [] [
 ⟨some 42,none,.mv false (.s 40)⟩,
 ⟨some 7,none,.mv false (.s 42)⟩]) (
 .region [1,2,6,40] [.norm [1,2,6]] [
 ⟨some 43,none,.mv false (.s 7)⟩,
 ⟨some 44,none,.mv false (.s 7)⟩,
 ⟨some 45,none,.bin .quo (.s 44) (.c (i64 4))⟩,
 ⟨some 46,none,.fieldAddr 0 (.s 1)⟩,
 ⟨some 47,none,.idxArr 8 1 (.s 46) (.s 45)⟩,
 ⟨some 48,none,.load none (some 1) false (.s 47)⟩,
 ⟨some 49,none,.mv false (.s 7)⟩,
 ⟨some 50,none,.bin .rem (.s 49) (.c (i64 4))⟩,
 ⟨some 51,none,.bin .mul (.c (i64 8)) (.s 50)⟩,
 ⟨some 52,none,.bin .sub (.c (i64 24)) (.s 51)⟩,
 ⟨some 53,none,.bin .shr (.s 48) (.s 52)⟩,
 ⟨some 54,none,.toInt .u8 (.s 53)⟩,
 ⟨some 55,none,.idxArr 32 1 (.s 6) (.s 43)⟩,
 ⟨none,none,.store none 6 false (.s 55) (.s 54)⟩]))) (
 .region [1,2,6,40] [] [
 ⟨some 56,none,.bin .add (.s 40) (.c (i64 1))⟩,
 ⟨some 40,none,.mv false (.s 56)⟩]))))))) (
 .seq (
 .region [2] [.norm [1,2,6]] [
 ⟨some 57,none,.load (some 32) (some 6) false (.s 6)⟩,
 ⟨none,none,.store (some 32) 2 false (.s 2) (.s 57)⟩]) (
 .ret)))))))))}

def z6y:z2p:=
 {n:=2,wr:=[],res:=[.t 4],body:=
 .seq (
 .region [2] [.norm [2]] [
 ⟨some 2,none,.box 2 none false (.s 0)⟩,
 ⟨some 4,none,.mv false (.c (st []))⟩]) (
 .seq (
 .seq (
 .region [2,11] [.norm [2]] [
 ⟨some 9,none,.load none (some 2) false (.s 2)⟩,
 ⟨some 10,none,.len true (.s 9)⟩,
 ⟨some 11,none,.bin .gtr (.s 10) (.c (i64 64))⟩]) (
 .cond (.s 11) (
 .seq (
 .region [2,5] [.norm [2,5]] [
 ⟨some 12,none,.load none (some 2) false (.s 2)⟩,
 ⟨some 13,none,.toBytes (.s 12)⟩,
 ⟨some 14,none,.call 3 [(.s 13)] []⟩,
 ⟨some 5,none,.alloc 5 (bys (z9m 32))⟩,
 ⟨none,none,.store (some 32) 5 false (.s 5) (.s 14)⟩]) (
 .region [2] [.norm [2,5]] [
 ⟨some 15,none,.slArr 32 1 (.s 5) none none none⟩,
 ⟨some 16,none,.toStr (some 5) (.s 15)⟩,
 ⟨none,none,.store none 2 false (.s 2) (.s 16)⟩])) (
 .ghost (.keep [2]) .skip))) (
 .seq (
 .region [6] [] [
 ⟨some 17,none,.mkfn 5 [] [(.s 2)]⟩,
 ⟨some 6,none,.mv false (.s 17)⟩]) (
 .seq (
 .region [6,7] [.norm [2,5,7]] [
 ⟨some 18,none,.call 0 [] []⟩,
 ⟨some 19,none,.mv false (.s 6)⟩,
 ⟨some 20,none,.callv 5 (.s 19) [(.c (u8 54))] [2]⟩,
 ⟨some 21,none,.call 1 [(.s 18),(.s 20)] []⟩,
 ⟨some 22,none,.mv false (.s 1)⟩,
 ⟨some 23,none,.call 1 [(.s 21),(.s 22)] []⟩,
 ⟨some 24,none,.call 2 [(.s 23)] []⟩,
 ⟨some 7,none,.alloc 7 (bys (z9m 32))⟩,
 ⟨none,none,.store (some 32) 7 false (.s 7) (.s 24)⟩]) (
 .seq (
 .region [8] [.norm [2,5,7,8]] [
 ⟨some 25,none,.call 0 [] []⟩,
 ⟨some 26,none,.mv false (.s 6)⟩,
 ⟨some 27,none,.callv 5 (.s 26) [(.c (u8 92))] [2]⟩,
 ⟨some 28,none,.call 1 [(.s 25),(.s 27)] []⟩,
 ⟨some 29,none,.slArr 32 1 (.s 7) none none none⟩,
 ⟨some 30,none,.toStr (some 7) (.s 29)⟩,
 ⟨some 31,none,.call 1 [(.s 28),(.s 30)] []⟩,
 ⟨some 32,none,.call 2 [(.s 31)] []⟩,
 ⟨some 8,none,.alloc 8 (bys (z9m 32))⟩,
 ⟨none,none,.store (some 32) 8 false (.s 8) (.s 32)⟩]) (
 .seq (
 .region [4] [] [
 ⟨some 33,none,.slArr 32 1 (.s 8) none none none⟩,
 ⟨some 34,none,.toStr (some 8) (.s 33)⟩,
 ⟨some 4,none,.mv false (.s 34)⟩]) (
 .ret))))))}

def z7m:z2p:=
 {n:=2,wr:=[],res:=[.cell 4 (some 8) 4],body:=
 .seq (
 .region [2,4] [.norm [2,4]] [
 ⟨some 2,none,.box 2 (some 8) false (.s 0)⟩,
 ⟨some 4,none,.alloc 4 (z3o (z3k 8))⟩]) (
 .seq (
 .region [2,4,5] [.norm [2,4,5]] [
 ⟨some 13,none,.mv false (.s 1)⟩,
 ⟨some 14,none,.call 10 [(.s 13)] []⟩,
 ⟨some 5,none,.alloc 5 (z3o (z3k 64))⟩,
 ⟨none,none,.store (some 64) 5 false (.s 5) (.s 14)⟩]) (
 .seq (
 .region [2,4,5,6,7] [.norm [2,4,5,6,7]] [
 ⟨some 15,none,.slArr 8 1 (.s 2) none (some (.c (i64 4))) none⟩,
 ⟨some 16,none,.s2ap 4 (.s 15)⟩,
 ⟨some 17,none,.load (some 4) (some 2) false (.s 16)⟩,
 ⟨some 18,none,.slArr 8 1 (.s 2) (some (.c (i64 4))) none none⟩,
 ⟨some 19,none,.s2ap 4 (.s 18)⟩,
 ⟨some 20,none,.load (some 4) (some 2) false (.s 19)⟩,
 ⟨some 6,none,.alloc 6 [u32 0,u32 0,u32 0,u32 0]⟩,
 ⟨some 7,none,.alloc 7 [u32 0,u32 0,u32 0,u32 0]⟩,
 ⟨none,none,.store (some 4) 6 false (.s 6) (.s 17)⟩,
 ⟨none,none,.store (some 4) 7 false (.s 7) (.s 20)⟩]) (
 .seq (
 .seq (
 .region [2,4,5,6,7,21,22] [.norm [2,4,5,6,7]] [
 ⟨some 21,none,.load (some 64) none false (.g 0)⟩,
 ⟨some 22,none,.mv false (.c (i64 0))⟩]) (
 .block 0 (
 .loop (
 .seq (
 .region [2,4,5,6,7,21,22,23] [] [
 ⟨some 23,none,.bin .lss (.s 22) (.c (i64 64))⟩]) (
 .seq (
 .cond (.s 23) (
 .ghost (.keep [2,4,5,6,7,21,22]) .skip) (
 .ghost (.keep [2,4,6,7]) (.exit 0))) (
 .seq (
 .block 1 (
 .seq (
 .region [2,4,5,6,7,8,9,21,22] [] [
 ⟨some 24,none,.mv false (.s 22)⟩,
 ⟨some 25,none,.idxA none 1 64 (.s 21) (.s 22)⟩,
 ⟨some 8,none,.mv false (.s 24)⟩,
 ⟨some 9,none,.mv false (.s 25)⟩]) (
 .seq (
 .region [2,4,5,6,7,10,21,22] [.norm [2,4,5,6,7]] [
 ⟨some 26,none,.idxArr 4 1 (.s 7) (.c (i64 3))⟩,
 ⟨some 27,none,.load none (some 7) false (.s 26)⟩,
 ⟨some 28,none,.idxArr 4 1 (.s 7) (.c (i64 0))⟩,
 ⟨some 29,none,.load none (some 7) false (.s 28)⟩,
 ⟨some 30,none,.call 11 [(.s 29),(.c (i64 6)),(.c (i64 11)),(.c (i64 25))] []⟩,
 ⟨some 31,none,.bin .add (.s 27) (.s 30)⟩,
 ⟨some 32,none,.idxArr 4 1 (.s 7) (.c (i64 0))⟩,
 ⟨some 33,none,.load none (some 7) false (.s 32)⟩,
 ⟨some 34,none,.idxArr 4 1 (.s 7) (.c (i64 1))⟩,
 ⟨some 35,none,.load none (some 7) false (.s 34)⟩,
 ⟨some 36,none,.bin .and (.s 33) (.s 35)⟩,
 ⟨some 37,none,.idxArr 4 1 (.s 7) (.c (i64 0))⟩,
 ⟨some 38,none,.load none (some 7) false (.s 37)⟩,
 ⟨some 39,none,.un .xor (.s 38)⟩,
 ⟨some 40,none,.idxArr 4 1 (.s 7) (.c (i64 2))⟩,
 ⟨some 41,none,.load none (some 7) false (.s 40)⟩,
 ⟨some 42,none,.bin .and (.s 39) (.s 41)⟩,
 ⟨some 43,none,.bin .xor (.s 36) (.s 42)⟩,
 ⟨some 44,none,.bin .add (.s 31) (.s 43)⟩,
 ⟨some 45,none,.mv false (.s 9)⟩,
 ⟨some 46,none,.bin .add (.s 44) (.s 45)⟩,
 ⟨some 47,none,.mv false (.s 8)⟩,
 ⟨some 48,none,.idxArr 64 1 (.s 5) (.s 47)⟩,
 ⟨some 49,none,.load none (some 5) false (.s 48)⟩,
 ⟨some 50,none,.bin .add (.s 46) (.s 49)⟩,
 ⟨some 10,none,.mv false (.s 50)⟩]) (
 .seq (
 .region [2,4,5,6,7,10,11,21,22] [.norm [2,4,5,6,7]] [
 ⟨some 51,none,.idxArr 4 1 (.s 6) (.c (i64 0))⟩,
 ⟨some 52,none,.load none (some 6) false (.s 51)⟩,
 ⟨some 53,none,.call 11 [(.s 52),(.c (i64 2)),(.c (i64 13)),(.c (i64 22))] []⟩,
 ⟨some 54,none,.idxArr 4 1 (.s 6) (.c (i64 0))⟩,
 ⟨some 55,none,.load none (some 6) false (.s 54)⟩,
 ⟨some 56,none,.idxArr 4 1 (.s 6) (.c (i64 1))⟩,
 ⟨some 57,none,.load none (some 6) false (.s 56)⟩,
 ⟨some 58,none,.bin .and (.s 55) (.s 57)⟩,
 ⟨some 59,none,.idxArr 4 1 (.s 6) (.c (i64 0))⟩,
 ⟨some 60,none,.load none (some 6) false (.s 59)⟩,
 ⟨some 61,none,.idxArr 4 1 (.s 6) (.c (i64 2))⟩,
 ⟨some 62,none,.load none (some 6) false (.s 61)⟩,
 ⟨some 63,none,.bin .and (.s 60) (.s 62)⟩,
 ⟨some 64,none,.bin .xor (.s 58) (.s 63)⟩,
 ⟨some 65,none,.idxArr 4 1 (.s 6) (.c (i64 1))⟩,
 ⟨some 66,none,.load none (some 6) false (.s 65)⟩,
 ⟨some 67,none,.idxArr 4 1 (.s 6) (.c (i64 2))⟩,
 ⟨some 68,none,.load none (some 6) false (.s 67)⟩,
 ⟨some 69,none,.bin .and (.s 66) (.s 68)⟩,
 ⟨some 70,none,.bin .xor (.s 64) (.s 69)⟩,
 ⟨some 71,none,.bin .add (.s 53) (.s 70)⟩,
 ⟨some 11,none,.mv false (.s 71)⟩]) (
 .seq (
 .region [2,4,5,6,7,10,11,21,22] [.norm [2,4,5,6,7]] [
 ⟨some 72,none,.idxArr 4 1 (.s 6) (.c (i64 3))⟩,
 ⟨some 73,none,.load none (some 6) false (.s 72)⟩,
 ⟨some 74,none,.mv false (.s 10)⟩,
 ⟨some 75,none,.bin .add (.s 73) (.s 74)⟩,
 ⟨some 76,none,.idxArr 4 1 (.s 7) (.c (i64 0))⟩,
 ⟨some 77,none,.load none (some 7) false (.s 76)⟩,
 ⟨some 78,none,.idxArr 4 1 (.s 7) (.c (i64 1))⟩,
 ⟨some 79,none,.load none (some 7) false (.s 78)⟩,
 ⟨some 80,none,.idxArr 4 1 (.s 7) (.c (i64 2))⟩,
 ⟨some 81,none,.load none (some 7) false (.s 80)⟩,
 ⟨some 82,none,.build [u32 0,u32 0,u32 0,u32 0] [(0,1,(.s 75)),(1,1,(.s 77)),(2,1,(.s 79)),(3,1,(.s 81))]⟩,
 ⟨none,none,.store (some 4) 7 false (.s 7) (.s 82)⟩]) (
 .region [2,4,5,6,7,21,22] [.norm [2,4,5,6,7]] [
 ⟨some 83,none,.mv false (.s 10)⟩,
 ⟨some 84,none,.mv false (.s 11)⟩,
 ⟨some 85,none,.bin .add (.s 83) (.s 84)⟩,
 ⟨some 86,none,.idxArr 4 1 (.s 6) (.c (i64 0))⟩,
 ⟨some 87,none,.load none (some 6) false (.s 86)⟩,
 ⟨some 88,none,.idxArr 4 1 (.s 6) (.c (i64 1))⟩,
 ⟨some 89,none,.load none (some 6) false (.s 88)⟩,
 ⟨some 90,none,.idxArr 4 1 (.s 6) (.c (i64 2))⟩,
 ⟨some 91,none,.load none (some 6) false (.s 90)⟩,
 ⟨some 92,none,.build [u32 0,u32 0,u32 0,u32 0] [(0,1,(.s 85)),(1,1,(.s 87)),(2,1,(.s 89)),(3,1,(.s 91))]⟩,
 ⟨none,none,.store (some 4) 6 false (.s 6) (.s 92)⟩])))))) (
 .region [2,4,5,6,7,21,22] [] [
 ⟨some 93,none,.bin .add (.s 22) (.c (i64 1))⟩,
 ⟨some 22,none,.mv false (.s 93)⟩]))))))) (
 .seq (
 .seq (
 .region [2,4,6,7,94] [] [
 ⟨some 94,none,.mv false (.c (i64 0))⟩]) (
 .block 2 (
 .loop (
 .seq (
 .region [2,4,6,7,94,95] [] [
 ⟨some 95,none,.bin .lss (.s 94) (.c (i64 4))⟩]) (
 .seq (
 .cond (.s 95) (
 .ghost (.keep [2,4,6,7,94]) .skip) (
 .ghost (.keep [2,4]) (.exit 2))) (
 .seq (
 .block 3 (
 .seq (
 .region [2,4,6,7,12,94] [] [
 ⟨some 96,none,.mv false (.s 94)⟩,
 ⟨some 12,none,.mv false (.s 96)⟩]) (
 .seq (
 .region [2,4,6,7,12,94] [.norm [2,4,5,6,7]] [
 ⟨some 97,none,.mv false (.s 12)⟩,
 ⟨some 98,none,.idxArr 8 1 (.s 2) (.s 97)⟩,
 ⟨some 99,none,.load none (some 2) false (.s 98)⟩,
 ⟨some 100,none,.mv false (.s 12)⟩,
 ⟨some 101,none,.idxArr 4 1 (.s 6) (.s 100)⟩,
 ⟨some 102,none,.load none (some 6) false (.s 101)⟩,
 ⟨some 103,none,.bin .add (.s 99) (.s 102)⟩,
 ⟨some 104,none,.idxArr 8 1 (.s 2) (.s 97)⟩,
 ⟨none,none,.store none 2 false (.s 104) (.s 103)⟩]) (
 .region [2,4,6,7,94] [.norm [2,4,5,6,7]] [
 ⟨some 105,none,.mv false (.s 12)⟩,
 ⟨some 106,none,.bin .add (.s 105) (.c (i64 4))⟩,
 ⟨some 107,none,.idxArr 8 1 (.s 2) (.s 106)⟩,
 ⟨some 108,none,.load none (some 2) false (.s 107)⟩,
 ⟨some 109,none,.mv false (.s 12)⟩,
 ⟨some 110,none,.idxArr 4 1 (.s 7) (.s 109)⟩,
 ⟨some 111,none,.load none (some 7) false (.s 110)⟩,
 ⟨some 112,none,.bin .add (.s 108) (.s 111)⟩,
 ⟨some 113,none,.idxArr 8 1 (.s 2) (.s 106)⟩,
 ⟨none,none,.store none 2 false (.s 113) (.s 112)⟩])))) (
 .region [2,4,6,7,94] [] [
 ⟨some 114,none,.bin .add (.s 94) (.c (i64 1))⟩,
 ⟨some 94,none,.mv false (.s 114)⟩]))))))) (
 .seq (
 .region [4] [.norm [2,4,5,6,7]] [
 ⟨some 115,none,.load (some 8) (some 2) false (.s 2)⟩,
 ⟨none,none,.store (some 8) 4 false (.s 4) (.s 115)⟩]) (
 .ret))))))}

def z5r:z2p:=
 {n:=2,wr:=[],res:=[.t 3],body:=
 .seq (
 .region [] [] [
 ⟨some 3,none,.mv false (.c (st []))⟩]) (
 .seq (
 .region [4] [.norm [4]] [
 ⟨some 4,none,.alloc 4 (bys (z9m 64))⟩]) (
 .seq (
 .region [4] [.norm [4]] [
 ⟨some 6,none,.slArr 64 1 (.s 4) none none none⟩,
 ⟨some 7,none,.load none none false (.s 1)⟩,
 ⟨some 8,none,.copy 1 true 4 none (.s 6) (.s 7)⟩]) (
 .seq (
 .seq (
 .region [4,9] [] [
 ⟨some 9,none,.mv false (.c (i64 0))⟩]) (
 .block 0 (
 .loop (
 .seq (
 .region [4,9,10] [] [
 ⟨some 10,none,.bin .lss (.s 9) (.c (i64 64))⟩]) (
 .seq (
 .cond (.s 10) (
 .ghost (.keep [4,9]) .skip) (
 .ghost (.keep [4]) (.exit 0))) (
 .seq (
 .block 1 (
 .seq (
 .region [4,5,9] [] [
 ⟨some 11,none,.mv false (.s 9)⟩,
 ⟨some 5,none,.mv false (.s 11)⟩]) (
 .region [4,9] [.norm [4]] [
 ⟨some 12,none,.mv false (.s 5)⟩,
 ⟨some 13,none,.idxArr 64 1 (.s 4) (.s 12)⟩,
 ⟨some 14,none,.load none (some 4) false (.s 13)⟩,
 ⟨some 15,none,.mv false (.s 0)⟩,
 ⟨some 16,none,.bin .xor (.s 14) (.s 15)⟩,
 ⟨some 17,none,.idxArr 64 1 (.s 4) (.s 12)⟩,
 ⟨none,none,.store none 4 false (.s 17) (.s 16)⟩]))) (
 .region [4,9] [] [
 ⟨some 18,none,.bin .add (.s 9) (.c (i64 1))⟩,
 ⟨some 9,none,.mv false (.s 18)⟩]))))))) (
 .seq (
 .region [3] [] [
 ⟨some 19,none,.slArr 64 1 (.s 4) none none none⟩,
 ⟨some 20,none,.toStr (some 4) (.s 19)⟩,
 ⟨some 3,none,.mv false (.s 20)⟩]) (
 .ret)))))}

def z9r:z2p:=
 {n:=1,wr:=[],res:=[.t 2],body:=
 .seq (
 .region [] [] [
 ⟨some 2,none,.mv true (.c (.sl (.own 1) none 0 []))⟩]) (
 .seq (
 .region [2] [] [
 ⟨some 3,none,.mv false (.s 0)⟩,
 ⟨some 4,none,.len true (.s 3)⟩,
 ⟨some 5,none,.call 12 [(.s 4)] []⟩,
 ⟨some 6,none,.mv false (.s 0)⟩,
 ⟨some 7,none,.append 1 1 true (some false) none 5 (.s 6)⟩,
 ⟨some 2,none,.mv true (.s 7)⟩]) (
 .ret))}

def z6m:z2p:=
 {n:=1,wr:=[],res:=[.cell 2 (some 64) 2],body:=
 .seq (
 .region [2] [.norm [2]] [
 ⟨some 2,none,.alloc 2 (z3o (z3k 64))⟩]) (
 .seq (
 .region [2,3] [.norm [2,3]] [
 ⟨some 3,none,.alloc 3 (z3o (z3k 64))⟩]) (
 .seq (
 .seq (
 .region [2,3,11] [] [
 ⟨some 11,none,.mv false (.c (i64 0))⟩]) (
 .block 0 (
 .loop (
 .seq (
 .region [2,3,11,12] [] [
 ⟨some 12,none,.bin .lss (.s 11) (.c (i64 64))⟩]) (
 .seq (
 .cond (.s 12) (
 .ghost (.keep [2,3,11]) .skip) (
 .ghost (.keep [2,3]) (.exit 0))) (
 .seq (
 .block 1 (
 .seq (
 .region [2,3,4,11] [] [
 ⟨some 13,none,.mv false (.s 11)⟩,
 ⟨some 4,none,.mv false (.s 13)⟩]) (
 .seq (
 .seq (
 .region [2,3,4,11,15] [] [
 ⟨some 14,none,.mv false (.s 4)⟩,
 ⟨some 15,none,.bin .lss (.s 14) (.c (i64 16))⟩]) (
 .cond (.s 15) (
 .seq (
 .seq (
 .region [2,3,4,11,22,23,24] [] [
 ⟨some 16,none,.mv false (.s 0)⟩,
 ⟨some 17,none,.mv false (.s 4)⟩,
 ⟨some 18,none,.bin .mul (.c (i64 4)) (.s 17)⟩,
 ⟨some 19,none,.mv false (.s 4)⟩,
 ⟨some 20,none,.bin .mul (.c (i64 4)) (.s 19)⟩,
 ⟨some 21,none,.bin .add (.s 20) (.c (i64 4))⟩,
 ⟨some 22,none,.slSl 1 (.s 16) (some (.s 18)) (some (.s 21)) none⟩,
 ⟨some 23,none,.len false (.s 22)⟩,
 ⟨some 24,none,.mv false (.c (i64 0))⟩]) (
 .block 2 (
 .loop (
 .seq (
 .region [2,3,4,11,22,23,24,25] [] [
 ⟨some 25,none,.bin .lss (.s 24) (.s 23)⟩]) (
 .seq (
 .cond (.s 25) (
 .ghost (.keep [2,3,4,11,22,23,24]) .skip) (
 .ghost (.keep [2,3,11]) (.exit 2))) (
 .seq (
 .block 3 (
 .seq (
 .region [2,3,4,6,11,22,23,24] [.norm [2,3]] [
 ⟨some 26,none,.idxSl 1 (.s 22) (.s 24)⟩,
 ⟨some 27,none,.load none none false (.s 26)⟩,
 ⟨some 6,none,.mv false (.s 27)⟩]) (
 .region [2,3,4,11,22,23,24] [.norm [2,3]] [
 ⟨some 28,none,.mv false (.s 4)⟩,
 ⟨some 29,none,.mv false (.s 4)⟩,
 ⟨some 30,none,.idxArr 64 1 (.s 3) (.s 29)⟩,
 ⟨some 31,none,.load none (some 3) false (.s 30)⟩,
 ⟨some 32,none,.bin .shl (.s 31) (.c (u64 8))⟩,
 ⟨some 33,none,.mv false (.s 6)⟩,
 ⟨some 34,none,.toInt .u32 (.s 33)⟩,
 ⟨some 35,none,.bin .or (.s 32) (.s 34)⟩,
 ⟨some 36,none,.idxArr 64 1 (.s 3) (.s 28)⟩,
 ⟨none,none,.store none 3 false (.s 36) (.s 35)⟩]))) (
 .region [2,3,4,11,22,23,24] [] [
 ⟨some 37,none,.bin .add (.s 24) (.c (i64 1))⟩,
 ⟨some 24,none,.mv false (.s 37)⟩]))))))) (
 .ghost (.keep [2,3,11]) (.exit 1))) (
 .ghost (.keep [2,3,4,11]) .skip))) (
 .seq (
 .region [2,3,4,7,8,11] [.norm [2,3]] [
 ⟨some 38,none,.mv false (.s 4)⟩,
 ⟨some 39,none,.bin .sub (.s 38) (.c (i64 15))⟩,
 ⟨some 40,none,.idxArr 64 1 (.s 3) (.s 39)⟩,
 ⟨some 41,none,.load none (some 3) false (.s 40)⟩,
 ⟨some 42,none,.mv false (.s 4)⟩,
 ⟨some 43,none,.bin .sub (.s 42) (.c (i64 2))⟩,
 ⟨some 44,none,.idxArr 64 1 (.s 3) (.s 43)⟩,
 ⟨some 45,none,.load none (some 3) false (.s 44)⟩,
 ⟨some 7,none,.mv false (.s 41)⟩,
 ⟨some 8,none,.mv false (.s 45)⟩]) (
 .seq (
 .region [2,3,4,8,9,11] [] [
 ⟨some 46,none,.mv false (.s 7)⟩,
 ⟨some 47,none,.call 13 [(.s 46),(.c (i64 (-7)))] []⟩,
 ⟨some 48,none,.mv false (.s 7)⟩,
 ⟨some 49,none,.call 13 [(.s 48),(.c (i64 (-18)))] []⟩,
 ⟨some 50,none,.bin .xor (.s 47) (.s 49)⟩,
 ⟨some 51,none,.mv false (.s 7)⟩,
 ⟨some 52,none,.bin .shr (.s 51) (.c (u64 3))⟩,
 ⟨some 53,none,.bin .xor (.s 50) (.s 52)⟩,
 ⟨some 9,none,.mv false (.s 53)⟩]) (
 .seq (
 .region [2,3,4,9,10,11] [] [
 ⟨some 54,none,.mv false (.s 8)⟩,
 ⟨some 55,none,.call 13 [(.s 54),(.c (i64 (-17)))] []⟩,
 ⟨some 56,none,.mv false (.s 8)⟩,
 ⟨some 57,none,.call 13 [(.s 56),(.c (i64 (-19)))] []⟩,
 ⟨some 58,none,.bin .xor (.s 55) (.s 57)⟩,
 ⟨some 59,none,.mv false (.s 8)⟩,
 ⟨some 60,none,.bin .shr (.s 59) (.c (u64 10))⟩,
 ⟨some 61,none,.bin .xor (.s 58) (.s 60)⟩,
 ⟨some 10,none,.mv false (.s 61)⟩]) (
 .region [2,3,11] [.norm [2,3]] [
 ⟨some 62,none,.mv false (.s 4)⟩,
 ⟨some 63,none,.mv false (.s 4)⟩,
 ⟨some 64,none,.bin .sub (.s 63) (.c (i64 16))⟩,
 ⟨some 65,none,.idxArr 64 1 (.s 3) (.s 64)⟩,
 ⟨some 66,none,.load none (some 3) false (.s 65)⟩,
 ⟨some 67,none,.mv false (.s 9)⟩,
 ⟨some 68,none,.bin .add (.s 66) (.s 67)⟩,
 ⟨some 69,none,.mv false (.s 4)⟩,
 ⟨some 70,none,.bin .sub (.s 69) (.c (i64 7))⟩,
 ⟨some 71,none,.idxArr 64 1 (.s 3) (.s 70)⟩,
 ⟨some 72,none,.load none (some 3) false (.s 71)⟩,
 ⟨some 73,none,.bin .add (.s 68) (.s 72)⟩,
 ⟨some 74,none,.mv false (.s 10)⟩,
 ⟨some 75,none,.bin .add (.s 73) (.s 74)⟩,
 ⟨some 76,none,.idxArr 64 1 (.s 3) (.s 62)⟩,
 ⟨none,none,.store none 3 false (.s 76) (.s 75)⟩]))))))) (
 .region [2,3,11] [] [
 ⟨some 77,none,.bin .add (.s 11) (.c (i64 1))⟩,
 ⟨some 11,none,.mv false (.s 77)⟩]))))))) (
 .seq (
 .region [2] [.norm [2,3]] [
 ⟨some 78,none,.load (some 64) (some 3) false (.s 3)⟩,
 ⟨none,none,.store (some 64) 2 false (.s 2) (.s 78)⟩]) (
 .ret))))}

def z2z:z2p:=
 {n:=4,wr:=[],res:=[.t 8],body:=
 .seq (
 .region [] [] [
 ⟨some 8,none,.mv false (.c (u32 0))⟩]) (
 .seq (
 .region [8] [] [
 ⟨some 9,none,.mv false (.s 0)⟩,
 ⟨some 10,none,.mv false (.s 1)⟩,
 ⟨some 11,none,.un .neg (.s 10)⟩,
 ⟨some 12,none,.call 13 [(.s 9),(.s 11)] []⟩,
 ⟨some 13,none,.mv false (.s 0)⟩,
 ⟨some 14,none,.mv false (.s 2)⟩,
 ⟨some 15,none,.un .neg (.s 14)⟩,
 ⟨some 16,none,.call 13 [(.s 13),(.s 15)] []⟩,
 ⟨some 17,none,.bin .xor (.s 12) (.s 16)⟩,
 ⟨some 18,none,.mv false (.s 0)⟩,
 ⟨some 19,none,.mv false (.s 3)⟩,
 ⟨some 20,none,.un .neg (.s 19)⟩,
 ⟨some 21,none,.call 13 [(.s 18),(.s 20)] []⟩,
 ⟨some 22,none,.bin .xor (.s 17) (.s 21)⟩,
 ⟨some 8,none,.mv false (.s 22)⟩]) (
 .ret))}

def z3z:z2p:=
 {n:=1,wr:=[],res:=[.t 2],body:=
 .seq (
 .region [] [] [
 ⟨some 2,none,.mv true (.c (.sl (.own 1) none 0 []))⟩]) (
 .scope (
 .seq (
 .region [3,4] [] [
 ⟨some 8,none,.mv false (.s 0)⟩,
 ⟨some 9,none,.toInt .u64 (.s 8)⟩,
 ⟨some 3,none,.mv false (.s 9)⟩,
 ⟨some 4,none,.mv false (.c (u8 0))⟩]) (
 .seq (
 .seq (
 .region [3,4,11] [] [
 ⟨some 10,none,.mv false (.s 0)⟩,
 ⟨some 11,none,.bin .lss (.s 10) (.c (i64 0))⟩]) (
 .cond (.s 11) (
 .region [3,4] [] [
 ⟨some 12,none,.mv false (.s 3)⟩,
 ⟨some 13,none,.un .xor (.s 12)⟩,
 ⟨some 3,none,.mv false (.s 13)⟩,
 ⟨some 4,none,.mv false (.c (u8 255))⟩]) (
 .ghost (.keep [3,4]) .skip))) (
 .seq (
 .region [3,4,5] [] [
 ⟨some 5,none,.mv false (.c (i64 8))⟩]) (
 .seq (
 .ghost (.keep [3,4,5]) .skip) (
 .seq (
 .block 0 (
 .loop (
 .seq (
 .seq (
 .region [3,4,5,15] [] [
 ⟨some 14,none,.mv false (.s 5)⟩,
 ⟨some 15,none,.bin .gtr (.s 14) (.c (i64 0))⟩]) (
 .cond (.s 15) (
 .ghost (.keep [3,4,5]) .skip) (
 .ghost (.keep [3,4,5]) (.exit 0)))) (
 .block 1 (
 .seq (
 .seq (
 .region [3,4,5,21] [] [
 ⟨some 16,none,.mv false (.s 3)⟩,
 ⟨some 17,none,.mv false (.s 5)⟩,
 ⟨some 18,none,.bin .sub (.s 17) (.c (i64 1))⟩,
 ⟨some 19,none,.bin .mul (.c (i64 8)) (.s 18)⟩,
 ⟨some 20,none,.bin .shr (.s 16) (.s 19)⟩,
 ⟨some 21,none,.bin .gtr (.s 20) (.c (u64 0))⟩]) (
 .cond (.s 21) (
 .ghost (.keep [3,4,5]) (.exit 0)) (
 .ghost (.keep [3,4,5]) .skip))) (
 .region [3,4,5] [] [
 ⟨some 22,none,.mv false (.s 5)⟩,
 ⟨some 23,none,.bin .sub (.s 22) (.c (i64 1))⟩,
 ⟨some 5,none,.mv false (.s 23)⟩])))))) (
 .seq (
 .region [3,4,5,6] [] [
 ⟨some 24,none,.mv false (.s 5)⟩,
 ⟨some 25,none,.bin .add (.c (i64 128)) (.s 24)⟩,
 ⟨some 26,none,.toInt .u8 (.s 25)⟩,
 ⟨some 27,none,.mv false (.s 4)⟩,
 ⟨some 28,none,.bin .xor (.s 26) (.s 27)⟩,
 ⟨some 29,none,.buildSl 1 1 [u8 0] [(0,1,(.s 28))]⟩,
 ⟨some 6,none,.mv true (.s 29)⟩]) (
 .seq (
 .seq (
 .region [3,4,6,7] [] [
 ⟨some 30,none,.mv false (.s 5)⟩,
 ⟨some 31,none,.bin .sub (.s 30) (.c (i64 1))⟩,
 ⟨some 7,none,.mv false (.s 31)⟩]) (
 .block 2 (
 .loop (
 .seq (
 .seq (
 .region [3,4,6,7,33] [] [
 ⟨some 32,none,.mv false (.s 7)⟩,
 ⟨some 33,none,.bin .geq (.s 32) (.c (i64 0))⟩]) (
 .cond (.s 33) (
 .ghost (.keep [3,4,6,7]) .skip) (
 .ghost (.keep [6]) (.exit 2)))) (
 .seq (
 .block 3 (
 .region [3,4,6,7] [] [
 ⟨some 36,none,.mv true (.s 6)⟩,
 ⟨some 37,none,.mv false (.s 3)⟩,
 ⟨some 38,none,.mv false (.s 7)⟩,
 ⟨some 39,none,.bin .mul (.c (i64 8)) (.s 38)⟩,
 ⟨some 40,none,.bin .shr (.s 37) (.s 39)⟩,
 ⟨some 41,none,.toInt .u8 (.s 40)⟩,
 ⟨some 42,none,.mv false (.s 4)⟩,
 ⟨some 43,none,.bin .xor (.s 41) (.s 42)⟩,
 ⟨some 44,none,.buildSl 1 1 [u8 0] [(0,1,(.s 43))]⟩,
 ⟨some 45,none,.append 1 1 false (some false) none 36 (.s 44)⟩,
 ⟨some 6,none,.mv true (.s 45)⟩])) (
 .region [3,4,6,7] [] [
 ⟨some 34,none,.mv false (.s 7)⟩,
 ⟨some 35,none,.bin .sub (.s 34) (.c (i64 1))⟩,
 ⟨some 7,none,.mv false (.s 35)⟩])))))) (
 .seq (
 .region [2] [] [
 ⟨some 46,none,.mv true (.s 6)⟩,
 ⟨some 2,none,.mv true (.s 46)⟩]) (
 .ret))))))))))}

def z4i:z2p:=
 {n:=2,wr:=[],res:=[.t 4],body:=
 .seq (
 .region [] [] [
 ⟨some 4,none,.mv false (.c (u32 0))⟩]) (
 .seq (
 .region [5] [] [
 ⟨some 6,none,.mv false (.s 1)⟩,
 ⟨some 7,none,.toInt .u64 (.s 6)⟩,
 ⟨some 8,none,.bin .and (.s 7) (.c (u64 31))⟩,
 ⟨some 5,none,.mv false (.s 8)⟩]) (
 .seq (
 .region [4] [] [
 ⟨some 9,none,.mv false (.s 0)⟩,
 ⟨some 10,none,.mv false (.s 5)⟩,
 ⟨some 11,none,.bin .shl (.s 9) (.s 10)⟩,
 ⟨some 12,none,.mv false (.s 0)⟩,
 ⟨some 13,none,.mv false (.s 5)⟩,
 ⟨some 14,none,.bin .sub (.c (u64 32)) (.s 13)⟩,
 ⟨some 15,none,.bin .shr (.s 12) (.s 14)⟩,
 ⟨some 16,none,.bin .or (.s 11) (.s 15)⟩,
 ⟨some 4,none,.mv false (.s 16)⟩]) (
 .ret)))}

end Go.Abs
end

section
namespace Go.Abs
def z1n (n:Int):Prop:= -9223372036854775808≤n∧n≤9223372036854775807
def z0vb:z4a:=⟨fun ds=>∃n,z1n n∧ds=[i64 n],fun ds=> .sl (.own 1) (some false) (z4Ua (asI (nth ds 0))).length (bys (z4Ua (asI (nth ds 0))))⟩
set_option maxRecDepth 100000 in
theorem z7Mb (c:UInt8):c^^^255=255-c:=by
 have h:∀k:Fin 256,UInt8.ofNat k.val^^^255=255-UInt8.ofNat k.val:=by decide+kernel
 have:=h ⟨c.toNat,c.toNat_lt⟩
 simpa using this
theorem z08b (E:Env):∀ds,z0vb.pre ds→ds.length=z3z.n∧awp E z3z.body (z2q z3z.res (z0vb.post ds)) (z9b z3z.wr ds):=by
 rintro _ ⟨n,⟨hn0,hn1⟩,rfl⟩
 simp(disch:=first|omega|(simp;omega)) [z3z,z0vb]
 refine z7a fun Q0 hQ0=> ?_
 have key:∀(x:UInt64) (f:UInt8),x.toNat=mag n→(∀c,c^^^f=flp n c)→Q0 .normal ⟨[(0,i64 n)],[(3,u64 x),(4,u8 f)],[]⟩:=by
  intro x f hx hf
  simp(disch:=first|omega|(simp;omega)) [hQ0]
  refine z7a fun Q1 hQ1=> ?_
  have key2:∀k:Nat,k≤8→(z3da (mag n)).length=k→Q1 (.exit 0) ⟨[(0,i64 n)],[(3,u64 x),(4,u8 f),(5,i64 k)],[]⟩:=by
   intro k hk8 hk
   simp(disch:=first|omega|(simp;omega)) [hQ1,z8a]
   refine z7a fun Q2 hQ2=> ?_
   have ehd:(UInt8.ofInt 128+UInt8.ofInt (k:Int))^^^f=flp n (UInt8.ofNat (128+k)):=by
    rw[←hf]
    congr 1
    apply UInt8.toNat_inj.1
    simp[z4ga]
    omega
   rw[ehd]
   refine z4f (fun j:Nat=>⟨[(0,i64 n)],[(3,u64 x),(4,u8 f),(6,.sl (.own 1) (some false) (1+j) (bys (flp n (UInt8.ofNat (128+k))::((z3da (mag n)).reverse.take j).map (flp n)))),(7,i64 ((k:Int)-1-j))],[]⟩)
    (fun j=>k-j) (· ≤k) 0 (by simp;rfl) (by simp) fun j hj=> ?_
   refine z7a fun Q3 hQ3=> ?_
   simp(disch:=first|omega|(simp;omega)) [z8a]
   rw[z3e]
   refine⟨by simp,fun h=> ?_,fun h=> ?_⟩<;>simp at h
   ·simp(disch:=first|omega|(simp;omega)) [z8a]
    refine⟨by omega,by omega,?_⟩
    have hjk:j<k:=by omega
    have e8:(8*((k:Int)-1-(j:Int))).toNat=8*(k-1-j):=by omega
    have hel:(z1ba x (8*(k-1-j))).toUInt8^^^f=flp n ((z3da (mag n))[k-1-j]'(by omega)):=by
     rw[hf,z59,z7Ya hx,z4Ma]
    have htk:((z3da (mag n)).map (flp n)).reverse.take (j+1)=((z3da (mag n)).map (flp n)).reverse.take j++[flp n ((z3da (mag n))[k-1-j]'(by omega))]:=by
     rw[List.take_succ_eq_append_getElem (by simp;omega)]
     simp[hk]
    rw[hQ3,e8,hel]
    simp
    refine⟨j+1,by omega,by omega,⟨by omega,?_⟩,by omega⟩
    rw[htk]
    simp[bys]
   ·have e:j=k:=by omega
    subst e
    simp[hQ3,hQ2,z4Ua,hk,List.take_of_length_le]
    omega
  refine z4f (fun k:Nat=>⟨[(0,i64 n)],[(3,u64 x),(4,u8 f),(5,i64 k)],[]⟩) (fun k=>k) (fun k=>k≤8∧(z3da (mag n)).length≤k) 8 rfl ?_ fun k hk=> ?_
  ·refine⟨by decide,(z7X 8 _).2 ?_⟩
   rw[←hx]
   exact x.toNat_lt
  ·obtain⟨hk8,hkl⟩:=hk
   refine z7a fun Q2 hQ2=> ?_
   simp(disch:=first|omega|(simp;omega)) [z8a]
   rw[z3e]
   refine⟨by simp,fun h=> ?_,fun h=> ?_⟩<;>simp at h
   ·obtain⟨j,rfl⟩:∃j,k=j+1:=⟨k-1,by omega⟩
    have e1:((8:Int)*(((j+1:Nat):Int)-1)).toNat=8*j:=by omega
    simp(disch:=first|omega|(simp;omega)) [z8a]
    refine⟨by omega,?_⟩
    rw[z3e]
    refine⟨by simp,fun h2=> ?_,fun h2=> ?_⟩<;>simp at h2
    ·simp[hQ2]
     refine key2 (j+1) hk8 ?_
     have h3:¬(z3da (mag n)).length≤j:=by
      rw[z7X,←z4Ma,Nat.not_lt,←z3Ea hx,←e1]
      simpa using h2
     omega
    ·simp(disch:=first|omega|(simp;omega)) [hQ2,z8a]
     have h3:¬0<z1ba x (8*j):=by rw[←e1];simpa using h2
     have h4:(z3da (mag n)).length≤j:=by rw[z7X,←z4Ma,←Nat.not_le,←z3Ea hx];exact h3
     exact⟨j,by omega,⟨by omega,h4⟩,by omega⟩
   ·simp[hQ2]
    subst h
    exact key2 0 (by decide) (by omega)
 rw[z3e]
 have hge:∀m:Int,0≤m→m<18446744073709551616→(UInt64.ofInt m).toNat=m.toNat:=fun m h0 h1=>by rw[z71,Int.emod_eq_of_lt h0 h1]
 refine⟨by simp,fun h=> ?_,fun h=> ?_⟩<;>simp at h
 ·simp
  refine key _ 255 ?_ ?_
  ·rw[mag,if_pos h,UInt64.toNat_not,z71]
   have:UInt64.size=18446744073709551616:=rfl
   omega
  ·intro c
   rw[flp,if_pos h]
   exact z7Mb c
 ·simp
  refine key _ 0 ?_ ?_
  ·rw[hge n h (by omega),mag,if_neg (by omega)]
  ·intro c
   rw[flp,if_neg (by omega)]
   simp
end Go.Abs
end

section
namespace Go.Abs
def z4na (s:List UInt8):List UInt8:=z4Ua s.length++s
def z63:z4a:=⟨fun ds=>∃s:List UInt8,s.length≤1099511000000∧ds=[st s],fun ds=> .sl (.own 1) (some false) (z4na (gS (nth ds 0))).length (bys (z4na (gS (nth ds 0))))⟩
theorem z87a {n:Int} (h:z1n n):(z3da (mag n)).length≤8:=by
 rw[z7X,mag]
 obtain⟨h1,h2⟩:=h
 split<;>omega
theorem z7ta {n:Int} (h:z1n n):(z4Ua n).length≤9:=by
 have:=z87a h
 simp[z4Ua];omega
theorem z0ob (E:Env) (h12:E.G 12=z0vb):∀ds,z63.pre ds→ds.length=z9r.n∧awp E z9r.body (z2q z9r.res (z63.post ds)) (z9b z9r.wr ds):=by
 rintro _ ⟨s,hs,rfl⟩
 have hi:z1n (s.length:Int):=⟨by omega,by omega⟩
 have hl:=z7ta hi
 simp(disch:=first|omega|(simp;omega)) [z9r,z63,h12,z0vb,z4na,hi,z8E]
 omega
end Go.Abs
end

section
namespace Go.Abs
def z54 (k:List UInt8) (w:UInt8):List UInt8:=(k.take 64++z9m (64-k.length)).map (· ^^^w)
theorem z5Z (k:List UInt8) (w:UInt8):(z54 k w).length=64:=by simp[z54];omega
def z1T (key:List UInt8):List UInt8:=if 64<key.length then sha key else key
def mac (key text:List UInt8):List UInt8:=sha (z54 (z1T key) 92++sha (z54 (z1T key) 54++text))
def z5qa:z4a:=⟨fun ds=>∃(w:UInt8) (key:List UInt8),ds=[u8 w,.ep [st key]],fun ds=>st (z54 (gS (nth (gCs (nth ds 1)) 0)) (gU8 (nth ds 0)))⟩
def z1Ab:z4a:=⟨fun ds=>∃key text:List UInt8,key.length<1099511627776∧text.length<1099511000000∧ds=[st key,st text],fun ds=>st (mac (gS (nth ds 0)) (gS (nth ds 1)))⟩
def sts (l:List (List UInt8)):List z2a:=l.map st
@[simp] theorem z37b (l:List (List UInt8)):(sts l).length=l.length:=by simp[sts]
@[simp] theorem z1Lc:sts []=[]:=rfl
theorem z5jb (x:List UInt8) (l:List (List UInt8)):sts (x::l)=st x::sts l:=rfl
@[simp] theorem z2yc (l:List (List UInt8)) (n:Nat):(sts l).take n=sts (l.take n):=by simp[sts]
@[simp] theorem z5uc (l:List (List UInt8)) (n:Nat):(sts l).drop n=sts (l.drop n):=by simp[sts]
def atS (l:List (List UInt8)) (i:Nat):List UInt8:=l.getD i []
theorem z2Gb {l:List (List UInt8)} {n:Nat} (h:n<l.length):hdA (sts (l.drop n))=st (atS l n):=by
 rw[List.drop_eq_getElem_cons h,z5jb]
 simp[atS,List.getD,List.getElem?_eq_getElem h]
def gSs (l:List z2a):List (List UInt8):=l.map gS
@[simp] theorem z2Qc (l:List (List UInt8)):gSs (sts l)=l:=by simp[gSs,sts,Function.comp_def]
@[simp] theorem z4Jc:gSs []=[]:=rfl
theorem z6ha {P:z2a→Prop} {l:List (List UInt8)} (h:∀x,P (st x)):∀c∈sts l,P c:=fun c hc=>by
 simp only[sts,List.mem_map] at hc
 obtain⟨x,_,rfl⟩:=hc
 exact h x
@[simp] theorem z3sc (l:List (List UInt8)):(∀c∈sts l,z1f c=true)↔True:=iff_true_intro (z6ha (by simp))
@[simp] theorem z9nc (l:List (List UInt8)):z4h (sts l)=true:=z05 (z6ha (by simp))
@[simp] theorem z1vc (l:List (List UInt8)):(∀c∈sts l,z9c c)↔True:=iff_true_intro (z6ha (by simp))
@[simp] theorem z5Oc (l:List (List UInt8)):(∀c∈sts l,z6g c=false)↔True:=iff_true_intro (z6ha (by simp))
@[simp] theorem z2lb (l:List (List UInt8)):(∀c∈sts l,z1f c=true∧z9c c)↔True:=iff_true_intro (z6ha (by simp))
@[simp] theorem z2ec (l:List (List UInt8)):z2l (sts l)=[]:=by induction l<;>simp_all [sts]
def z95a (tag:Int) (parts:List (List UInt8)):List UInt8:=UInt8.ofInt tag::parts.flatMap z4na
def z6Wa (tag:Int) (parts:List (List UInt8)):List UInt8:=(sha (z95a tag parts)).take 16
def z8aa (parts:List (List UInt8)):Nat:=(parts.map fun p=>p.length+9).sum
theorem z2Z {s:List UInt8} (h:s.length<1099511627776):(z4na s).length≤s.length+9:=by
 have:=z7ta (n:=s.length) ⟨by omega,by omega⟩
 simp[z4na];omega
def ofC:z4a:=⟨fun ds=>∃(tag:Int) (nl:Option Bool) (parts:List (List UInt8)),z8aa parts<1099511000000∧ds=[i64 tag,.sl .plain nl parts.length (sts parts)],fun ds=> .agg (bys (z6Wa (asI (nth ds 0)) (gSs (gCs (nth ds 1)))))⟩
theorem z64a (tag:Int) (parts:List (List UInt8)):(z6Wa tag parts).length=16:=by simp[z6Wa,z8Ia]

def svc (l:List UInt8):List z2a:=scs (z8t.init.add l)
theorem z50a (l:List UInt8):(z8t.init.add l).b.length=64:=by rw[z08,z8ca]
@[simp] theorem z2gb (l:List UInt8):(svc l).length=73:=z2D (z50a l)
@[simp] theorem z9wc (l:List UInt8):(∀c∈svc l,z9c c)↔True:=z0xb _
@[simp] theorem z1Hc (l:List UInt8):(∀c∈svc l,z6g c=false)↔True:=z6Kb _
@[simp] theorem z8nc (l:List UInt8):z4h (svc l)=true:=z8Da _
@[simp] theorem z4uc (l:List UInt8):(∀c∈svc l,z1f c=true)↔True:=z3kb _
@[simp] theorem z1Pc (l:List UInt8):z1b (svc l)=true:=z7Rb _
@[simp] theorem z5wc (l:List UInt8):z2l (svc l)=[]:=z9kb _
@[simp] theorem z7yc (l:List UInt8):(svc l).take 73=svc l:=List.take_of_length_le (by rw[z2gb];decide)
@[simp] theorem z93b {zs:List z2a} (l:List UInt8) (h:zs.length=73):splice zs 0 (svc l)=svc l:=z0j (by rw[z2gb,h])
@[simp] theorem z71b:(z3o (z3k 8)++(bys (z9m 64)++[u64 0])).length=73:=z1Oa
@[simp] theorem z38b:z5V.pre []=True:=by simp[z5V]
@[simp] theorem z8Yb:z5V.post []= .agg (svc []):=rfl
@[simp] theorem z5Lc (l m:List UInt8):z4Na.pre [.agg (svc l),st m]=True:=eq_true ⟨_,m,z50a l,rfl⟩
@[simp] theorem z4tc (l m:List UInt8):z4Na.post [.agg (svc l),st m]= .agg (svc (l++m)):=by
 simp[z4Na,svc,z8t.v,z8t.of_scs _ (z50a l),z3R]
theorem z1sb {l:List UInt8} {nl:Option Bool} {n:Nat} (hn:n=l.length) (h:l.length<1099511627776):z5ra.pre [.sl .plain nl n (bys l)]=True:=eq_true ⟨nl,l,h,by rw[hn]⟩
@[simp] theorem z9gc (l:List UInt8) (nl:Option Bool) (n:Nat):z5ra.post [.sl .plain nl n (bys l)]= .agg (bys (sha l)):=by simp[z5ra]
theorem z9Vb {l:List UInt8} (h:l.length<1099511627776):z61a.pre [.agg (svc l)]=True:=
 eq_true ⟨_,z50a l,by rw[z6ga _ _ (by show 0+l.length<_;omega)];show 0+l.length<_;omega,rfl⟩
@[simp] theorem z5xc (l:List UInt8):z61a.post [.agg (svc l)]= .agg (bys (sha l)):=by simp[z61a,svc,z8t.of_scs _ (z50a l),sha]
@[simp] theorem z2Bc (w:UInt8) (k:List UInt8):z5qa.pre [u8 w,.ep [st k]]=True:=eq_true ⟨w,k,rfl⟩
@[simp] theorem z4qc (w:UInt8) (k:List UInt8):z5qa.post [u8 w,.ep [st k]]=st (z54 k w):=by simp[z5qa]
theorem z0Nb {k m:List UInt8} (hk:k.length<1099511627776) (hm:m.length<1099511000000):z1Ab.pre [st k,st m]=True:=eq_true ⟨k,m,hk,hm,rfl⟩
@[simp] theorem z7uc (k m:List UInt8):z1Ab.post [st k,st m]=st (mac k m):=by simp[z1Ab]
theorem z4Ea {s:List UInt8} (h:s.length≤1099511000000):z63.pre [st s]=True:=eq_true ⟨s,h,rfl⟩
@[simp] theorem z91b (s:List UInt8):z63.post [st s]= .sl (.own 1) (some false) (z4na s).length (bys (z4na s)):=by simp[z63]
@[simp] theorem z3Qc (tag:Int) (nl:Option Bool) (n:Nat) (l:List (List UInt8)):ofC.post [i64 tag,.sl .plain nl n (sts l)]= .agg (bys (z6Wa tag l)):=by simp[ofC]
attribute [simp] z5Z z8Ia z64a
theorem z72 {zs:List z2a} {l:List UInt8} (h:l.length=zs.length):splice zs 0 (bys l)=bys l:=z0j (by simpa using h)
theorem z2U:∀{l:List (List UInt8)},z8aa l<1099511000000→(l.flatMap z4na).length≤z8aa l
 |[],_=>by simp
 |x::l,h=>by
  simp only[z8aa,List.map_cons,List.sum_cons] at h
  have h1:=z2Z (s:=x) (by omega)
  have h2:=z2U (l:=l) (by simp only[z8aa];omega)
  simp only[z8aa] at h2
  simp only[List.flatMap_cons,List.length_append,z8aa,List.map_cons,List.sum_cons]
  omega
theorem z6ea {l:List (List UInt8)} {i:Nat} (hi:i<l.length):(atS l i).length+9≤z8aa l:=by
 induction l generalizing i with
 |nil=>simp at hi
 |cons x l ih=>
  simp only[z8aa,List.map_cons,List.sum_cons]
  cases i with
  |zero=>simp[atS]
  |succ i=>
   have:=ih (i:=i) (by simpa using hi)
   simp only[z8aa] at this
   simp only[atS,List.getD_cons_succ] at this⊢
   omega
theorem z8R {α β:Type} (l:List α) (f:α→List β) (d:α) {i:Nat} (hi:i<l.length):(l.take (i+1)).flatMap f=(l.take i).flatMap f++f (l.getD i d):=by
 rw[List.take_succ_eq_append_getElem hi,List.getD,List.getElem?_eq_getElem hi]
 simp only[List.flatMap_append,List.flatMap_cons,List.flatMap_nil,List.append_nil,Option.getD_some]
theorem z0bc {l:List UInt8} {i:Nat} (h:i<l.length):l.take (i+1)=l.take i++[at8 l i]:=by
 rw[List.take_succ_eq_append_getElem h,at8,List.getD,List.getElem?_eq_getElem h];rfl
theorem z5la (n k:Nat):(z9m n).drop k=z9m (n-k):=by simp only[z9m,List.drop_replicate]
theorem z32:∀l:List (List UInt8),l.length≤z8aa l
 |[]=>by simp
 |x::l=>by
  have:=z32 l
  simp only[z8aa,List.map_cons,List.sum_cons,List.length_cons] at this⊢
  omega
end Go.Abs
end

section
namespace Go.Abs
theorem z7p {cs:List z2a} (h:(GT.int .i64).has cs):∃x:Int,-9223372036854775808≤x∧x≤9223372036854775807∧cs=[i64 x]:=by
 simp only[GT.has] at h
 obtain⟨n,rfl,h0,h1⟩:=h
 exact⟨n,h0,h1,rfl⟩
theorem z3qb {cs:List z2a} (h:GT.bool.has cs):∃x:Bool,cs=[bo x]:=by
 simp only[GT.has] at h
 exact h
@[simp] theorem z8Lc (g:GT) (c:z2a) (h:g.row=false):g.top [c]=c:=by simp[GT.top,h]

theorem z7Sa {K:Cx} {W:World} {name:String} {k:IntKind} {zs:List Int} {g:Nat} {cs:List z2a} (h:Lib.TabIs K.P W name k zs) (hg:K.P.globalNamed name=some g) (hc:cs=zs.map fun z=> .lit (.int k z)):
  z1d K.toCon (z88 W) W cs g 0:=by
 subst hc
 refine z1d.mk fun i d hd=> ?_
 rw[List.getElem?_map,Option.map_eq_some_iff] at hd
 obtain⟨z,hz,rfl⟩:=hd
 have:=World.var?_cell hg h i
 rw[Nat.zero_add]
 have hcell:W.cell? ⟨g,i,none⟩=some (.int k z):=by rw[this];simp[hz]
 exact⟨z2Ha hcell,_,hcell,by simp[z2c]⟩
def z20 {H:Type}:DataW H→Nat
 | .lit (.string l)=>l.length+1
 | .lit _=>1
 | .nil=>1
 | .ptr d=>z20 d+1
 | .slice es _=>(es.attach.map fun⟨d,_⟩=>z20 d).sum+1
 | .agg ps=>(ps.attach.map fun⟨d,_⟩=>z20 d).sum+1
 |_=>1
theorem z1Ya {H:Type}:z61b (z20 (H:=H)):=by
 refine⟨fun l=> ?_,fun l=> ?_,?_,fun es sp=> ?_,fun ps=> ?_⟩
 ·cases l<;>simp[z20]
 ·simp[z20]
 ·simp[z20]
 ·rw[z20]
  have:(es.attach.map fun x:{x//x∈es}=>z20 x.1).sum=(es.map z20).sum:=by rw[List.attach_map_val (l:=es) (f:=z20)]
  exact Nat.le_of_eq (by rw[←this])
 ·rw[z20]
  have:(ps.attach.map fun x:{x//x∈ps}=>z20 x.1).sum=(ps.map z20).sum:=by rw[List.attach_map_val (l:=ps) (f:=z20)]
  exact Nat.le_trans (Nat.le_of_eq this.symm) (Nat.le_succ _)
end Go.Abs
end

section
namespace Go.Abs
section
variable {H : Type} {enc : TypeId × Value → H} {P : Program} {W W' : World}
theorem z4ra {α β γ:Type} {f g:α→Option (β×γ)}:∀{l:List α} {xs ys:List (β×γ)},l.mapM f=some xs→l.mapM g=some ys→xs.map (·.1)=ys.map (·.1)→
  ∀a∈l,∃b p q,f a=some (b,p)∧g a=some (b,q)
 |[],xs,ys,_,_,_,a,ha=>by cases ha
 |x::l,xs,ys,hx,hy,he,a,ha=>by
  simp only[List.mapM_cons,Option.bind_eq_bind,Option.bind_eq_some_iff,Option.pure_def,Option.some.injEq] at hx hy
  obtain⟨u,hu,us,hus,rfl⟩:=hx
  obtain⟨v,hv,vs,hvs,rfl⟩:=hy
  simp only[List.map_cons,List.cons.injEq] at he
  rcases List.mem_cons.1 ha with rfl|ha
  ·obtain⟨b,p⟩:=u
   obtain⟨b',q⟩:=v
   simp only at he
   exact⟨b,p,q,hu,by rw[hv,he.1]⟩
  ·exact z4ra hus hvs he.2 a ha
theorem z3qc {α:Type} {cs cs':List α} {n c:Nat} (h:cs.length=n*c) (h':cs'.length=n*c) (he:∀i,i<n→(cs.drop (i*c)).take c=(cs'.drop (i*c)).take c):cs=cs':=by
 induction n generalizing cs cs' with
 |zero=>
  rw[Nat.zero_mul] at h h'
  rw[List.length_eq_zero_iff.1 h,List.length_eq_zero_iff.1 h']
 |succ n ih=>
  rw[Nat.add_mul,Nat.one_mul] at h h'
  have e0:=he 0 (by omega)
  rw[Nat.zero_mul,List.drop_zero,List.drop_zero] at e0
  have e1:=ih (cs:=cs.drop c) (cs':=cs'.drop c) (by rw[List.length_drop];omega) (by rw[List.length_drop];omega) fun i hi=>by
   have:=he (i+1) (by omega)
   rw[List.drop_drop,List.drop_drop,show c+i*c=(i+1)*c by rw[Nat.add_mul,Nat.one_mul];omega]
   exact this
  rw[←List.take_append_drop c cs,←List.take_append_drop c cs',e0,e1]
mutual
theorem z6va (hl:laidOutB P=true) {sp sp':Nat→Bool} {base base':Nat} {hd hd':Bool}:∀(gt:GT) (fuel fuel':Nat) (t:TypeId) (cs cs':List Value) (d:DataW H) (p p':List MemPlace),
  DataW.trod enc P W base sp hd fuel t cs=some (d,p)→DataW.trod enc P W' base' sp' hd' fuel' t cs'=some (d,p')→gt.fits P t=true→t<P.types.size→gt.flat=true→cs=cs'
 |gt,0,_,t,cs,cs',d,p,p',h,h',_,_,_=>by simp[DataW.trod] at h
 |gt,_+1,0,t,cs,cs',d,p,p',h,h',_,_,_=>by simp[DataW.trod] at h'
 | .bool,fuel+1,fuel'+1,t,cs,cs',d,p,p',h,h',hf,ht,hs=>by
  simp only[GT.fits] at hf
  split at hf
  ·rename_i hu
   simp only[DataW.trod,hu] at h h'
   split at h<;>simp_all
   split at h'<;>simp_all
   obtain⟨rfl,_⟩:=h
   obtain⟨h',_⟩:=h'
   cases h'
   rfl
  ·cases hf
 | .int k,fuel+1,fuel'+1,t,cs,cs',d,p,p',h,h',hf,ht,hs=>by
  simp only[GT.fits] at hf
  split at hf
  ·rename_i k' hu
   obtain⟨n,rfl,hx,_⟩:=DataW.trod_int hu h
   obtain⟨n',rfl,hx',_⟩:=DataW.trod_int hu h'
   cases hx
   cases hx'
   rfl
  ·cases hf
 | .str,fuel+1,fuel'+1,t,cs,cs',d,p,p',h,h',hf,ht,hs=>by
  simp only[GT.fits] at hf
  split at hf
  ·rename_i hu
   obtain⟨s,rfl,hx,_⟩:=DataW.trod_string hu h
   obtain⟨s',rfl,hx',_⟩:=DataW.trod_string hu h'
   cases hx
   simp only[Prod.mk.injEq,DataW.lit.injEq,Lit.string.injEq] at hx'
   obtain⟨e,_⟩:=hx'
   have:s=s':=by
    obtain⟨a⟩:=s
    obtain⟨b⟩:=s'
    simp only at e
    rw[show a=b from Array.toList_inj.1 e]
   rw[this]
  ·cases hf
 | .sl e,fuel+1,fuel'+1,t,cs,cs',d,p,p',h,h',hf,ht,hs=>by simp[GT.flat] at hs
 | .arr n e,fuel+1,fuel'+1,t,cs,cs',d,p,p',h,h',hf,ht,hs=>by
  simp only[GT.fits] at hf
  split at hf
  ·rename_i n' t' hu
   simp only[Bool.and_eq_true,beq_iff_eq] at hf
   obtain⟨rfl,hf⟩:=hf
   obtain⟨ht',hct⟩:=kid_array hl ht hu
   simp only[DataW.trod,hu] at h h'
   split at h
   ·rename_i hlen
    split at h'
    ·rename_i hlen'
     simp only[Option.map_eq_some_iff] at h h'
     obtain⟨xs,hm,hd⟩:=h
     obtain⟨ys,hm',hd'⟩:=h'
     simp only[Prod.mk.injEq] at hd hd'
     obtain⟨rfl,_⟩:=hd
     obtain⟨he,_⟩:=hd'
     simp only[DataW.agg.injEq] at he
     have hh:=z4ra hm hm' he.symm
     refine z3qc (n:=n) (c:=P.cellsOf t') (by omega) (by omega) fun i hi=> ?_
     obtain⟨b,q,q',g1,g2⟩:=hh i (by simpa using hi)
     exact z6va hl e fuel fuel' t' _ _ b q q' g1 g2 hf ht' (by simpa[GT.flat] using hs)
    ·cases h'
   ·cases h
  ·cases hf
 | .st fs,fuel+1,fuel'+1,t,cs,cs',d,p,p',h,h',hf,ht,hs=>by
  simp only[GT.fits] at hf
  split at hf
  ·rename_i F hu
   obtain⟨h1,h2,h3⟩:=kid_struct hl ht hu
   simp only[DataW.trod,hu] at h h'
   split at h
   ·rename_i hlen
    split at h'
    ·rename_i hlen'
     simp only[Option.map_eq_some_iff] at h h'
     obtain⟨xs,hm,hd⟩:=h
     obtain⟨ys,hm',hd'⟩:=h'
     simp only[Prod.mk.injEq] at hd hd'
     obtain⟨rfl,_⟩:=hd
     obtain⟨he,_⟩:=hd'
     simp only[DataW.agg.injEq] at he
     have:=z3xa hl fs F.toList 0 fuel fuel' cs cs' (z4ra hm hm' he.symm) hf h1 (fun j f hj=>by rw[h3 j f hj,Nat.zero_add]) (by simpa[GT.flat] using hs)
     rw[List.drop_zero,List.drop_zero,←h2,List.take_of_length_le (by omega),List.take_of_length_le (by omega)] at this
     exact this
    ·cases h'
   ·cases h
  ·cases hf
theorem z3xa (hl:laidOutB P=true) {sp sp':Nat→Bool} {base base':Nat} {hd hd':Bool}:∀(gs:List GT) (F:List Field) (off fuel fuel':Nat) (cs cs':List Value),
  (∀f∈F,∃b p q,DataW.trod enc P W base sp hd fuel f.type ((cs.drop f.offset).take (P.cellsOf f.type))=some (b,p)∧DataW.trod enc P W' base' sp' hd' fuel' f.type ((cs'.drop f.offset).take (P.cellsOf f.type))=some (b,q))→
  GT.fitsL P gs (F.map (·.type))=true→(∀f∈F,f.type<P.types.size)→(∀(j:Nat) f,F[j]? =some f→f.offset=off+((F.take j).map fun f=>P.cellsOf f.type).sum)→GT.flatL gs=true→
  (cs.drop off).take (F.map fun f=>P.cellsOf f.type).sum=(cs'.drop off).take (F.map fun f=>P.cellsOf f.type).sum
 |[],[],off,fuel,fuel',cs,cs',_,_,_,_,_=>by simp
 |[],_::_,off,fuel,fuel',cs,cs',_,hf,_,_,_=>by simp[GT.fitsL] at hf
 |_::_,[],off,fuel,fuel',cs,cs',_,hf,_,_,_=>by simp[GT.fitsL] at hf
 |g::gs,f::F,off,fuel,fuel',cs,cs',hm,hf,ht,ho,hs=>by
  simp only[List.map_cons,GT.fitsL,Bool.and_eq_true] at hf
  have h0:=ho 0 f rfl
  simp only[List.take_zero,List.map_nil,List.sum_nil,Nat.add_zero] at h0
  simp only[GT.flatL,Bool.and_eq_true] at hs
  obtain⟨b,p,q,g1,g2⟩:=hm f (by simp)
  have e1:=z6va hl g fuel fuel' f.type _ _ b p q g1 g2 hf.1 (ht f (by simp)) hs.1
  have e2:=z3xa hl gs F (off+P.cellsOf f.type) fuel fuel' cs cs' (fun f' h'=>hm f' (by simp[h'])) hf.2 (fun f' hf'=>ht f' (by simp[hf'])) (fun j f' hj=>by
   have:=ho (j+1) f' (by simpa using hj)
   simp only[List.take_succ_cons,List.map_cons,List.sum_cons] at this
   omega) hs.2
  rw[h0] at e1
  rw[List.map_cons,List.sum_cons,List.take_add,List.take_add,List.drop_drop,List.drop_drop,e1,e2]
end
end
theorem z79a {K:Cx} {W W':World} {name:String} {d:DataW Unit} {rest:List (String×DataW Unit)} {g:Nat} {t:TypeId} {vs:List Value} {cs:List z2a} {p:List MemPlace} {fuel:Nat} (gt:GT) (h:laidMet K.P ((name,d)::rest) W)
  (hg:K.P.globalNamed name=some g) (hty:(K.P.globals[g]?).map (·.type)=some t) (hl:laidOutB K.P=true) (hf:gt.fits K.P t=true) (ht:t<K.P.types.size) (hs:gt.flat=true)
  (hv:DataW.trod (fun _=>()) K.P W' 0 (fun _=>true) false fuel t vs=some (d,p)) (hc:cs=vs.map z2a.lit):z1d K.toCon (z88 W) W cs g 0:=by
 subst hc
 obtain⟨ps,⟨g',t',cs',fuel',p',q,hg',ht',hvar,hd,_,_⟩,_⟩:=h
 obtain rfl:=Option.some.inj (hg.symm.trans hg')
 obtain rfl:=Option.some.inj (hty.symm.trans ht')
 have e:=z6va hl gt fuel' fuel t _ _ d p' p hd hv hf ht hs
 refine z1d.mk fun i d hd=> ?_
 rw[List.getElem?_map,Option.map_eq_some_iff] at hd
 obtain⟨v,hz,rfl⟩:=hd
 have:=World.var?_cell hg hvar i
 rw[Nat.zero_add]
 have hcell:W.cell? ⟨g,i,none⟩=some v:=by
  rw[this,←hz,←e];simp
 exact⟨z2Ha hcell,_,hcell,by simp[z2c]⟩
end Go.Abs
end

section
namespace Go.Abs
def z3J (b:List UInt8):List UInt8:=b++z2bb (UInt64.ofNat b.length)
theorem z07a (n:UInt64):(z2bb n).length=z3na n.toNat+9:=by simp[z2bb,z76]
theorem z8na {b:List UInt8} (h:b.length<1099511627776):(z3J b).length% 64=0∧b.length<(z3J b).length∧(z3J b).length≤b.length+128:=by
 have hn:(UInt64.ofNat b.length).toNat=b.length:=by rw[UInt64.toNat_ofNat'];omega
 have h1:=z8Ha b.length
 have h2:=z1Ga b.length
 simp only[z3J,List.length_append,z07a,hn]
 omega
def blk (m:List UInt8) (s:H8):Nat→H8
 |0=>s
 |k+1=>z30a (blk m s k) ((m.drop (64*k)).take 64)
theorem z4oa (m:List UInt8):∀k,64*k≤m.length→64*k<1099511627776→(z8t.init.add (m.take (64*k))).h=blk m iv k
 |0,_,_=>by simp[z8t.add,blk,z8t.init]
 |k+1,h,h'=>by
  have ih:=z4oa m k (by omega) (by omega)
  have hb:=z50a (m.take (64*k))
  have hn:(z8t.init.add (m.take (64*k))).n.toNat=64*k:=by
   have e:z8t.init.n.toNat=0:=rfl
   rw[z6ga _ _ (by rw[e];simp;omega),e,List.length_take]
   omega
  have h64:(z8t.init.add (m.take (64*k))).n.toNat% 64=0:=by rw[hn];omega
  rw[show 64*(k+1)=64*k+64 by omega,List.take_add,z3R,z2ga _ hb 64 _ (by simp;omega) (by omega)]
  simp only[h64,Nat.zero_add,if_true,List.take_zero,List.nil_append,ih,blk]
  have hd:List.drop 64 (z8t.init.add (m.take (64*k))).b=[]:=List.drop_of_length_le (by omega)
  rw[hd,List.append_nil]
theorem z8Kb {b:List UInt8} (h:b.length<1099511000000):sha b=z0fb (blk (z3J b) iv ((z3J b).length/64)) 32:=by
 obtain⟨h1,h2,h3⟩:=z8na (b:=b) (by omega)
 have e:=z4oa (z3J b) ((z3J b).length/64) (by omega) (by omega)
 rw[show 64*((z3J b).length/64)=(z3J b).length by omega,List.take_length] at e
 have hn:(z8t.init.add b).n=UInt64.ofNat b.length:=by rw[z1kc];exact UInt64.zero_add _
 rw[←e,sha,z8t.sum,z3J,z3R,hn]
def few (l:List (List UInt8)):Bool:=decide (l.length≤12)&&l.all fun s=>decide (s.length≤400)
def z0qa:z4a:=⟨fun ds=>∃x n,0≤n∧n≤32∧ds=[u32 x,i64 n],fun ds=>u32 (z01 (z2Fb (nth ds 0)) (asI (nth ds 1)).toNat)⟩
def z4V:z4a:=⟨fun ds=>∃(nl:Option Bool) (b:List UInt8),b.length<1099511000000∧ds=[.sl .plain nl b.length (bys b)],fun ds=> .sl (.own 1) (some false) (z3J (gBs (gCs (nth ds 0)))).length (bys (z3J (gBs (gCs (nth ds 0)))))⟩
def fewC:z4a:=⟨fun ds=>∃(nl:Option Bool) (l:List (List UInt8)),ds=[.sl .plain nl l.length (sts l)],fun ds=>bo (few (gSs (gCs (nth ds 0))))⟩
def z2gc:z4a:=⟨fun ds=>∃(nl:Option Bool) (l:List (List UInt8)),z8aa l<1099511000000∧ds=[.sl .plain nl l.length (sts l)],fun ds=>st (gSs (gCs (nth ds 0))).flatten⟩
def z1S:z4a:=⟨fun ds=>∃h:List UInt8,h.length=32∧ds=[.agg (bys h)],fun ds=>st (gBs (gCs (nth ds 0)))⟩
def z5fb:z4a:=⟨fun ds=>∃h:List UInt8,h.length=16∧ds=[.agg (bys h)],fun ds=>st (gBs (gCs (nth ds 0)))⟩
def z4Ca:z4a:=⟨fun ds=>∃(k:List UInt8) (w:UInt8),k.length<1099511000000∧ds=[st k,u8 w],fun ds=> .sl (.own 1) none 64 (bys (z54 (z1T (gS (nth ds 0))) (gU8 (nth ds 1))))⟩
def z8ra:z4a:=⟨fun ds=>∃(nl:Option Bool) (l:List UInt8),l.length<1099511000000∧ds=[.sl .plain nl l.length (bys l)],fun ds=> .agg (bys (sha (gBs (gCs (nth ds 0)))))⟩
def z8za:z4a:=⟨fun ds=>∃key text:List UInt8,key.length<1099511000000∧text.length<1099510000000∧ds=[st key,st text],fun ds=>st (mac (gS (nth ds 0)) (gS (nth ds 1)))⟩
def z4zb:z4a:=⟨fun ds=>∃(nl:Option Bool) (l:List UInt8),l.length<1099511000000∧ds=[.sl .plain nl l.length (bys l)],fun ds=> .agg (bys ((sha (gBs (gCs (nth ds 0)))).take 16))⟩
def z0yb:z4a:=⟨fun ds=>∃(tag:Int) (nl:Option Bool) (l:List (List UInt8)),z8aa l<1099510000000∧ds=[i64 tag,.sl .plain nl l.length (sts l)],
 fun ds=> .sl (.own 1) (some false) (z95a (asI (nth ds 0)) (gSs (gCs (nth ds 1)))).length (bys (z95a (asI (nth ds 0)) (gSs (gCs (nth ds 1)))))⟩
def rofC:z4a:=⟨fun ds=>∃(tag:Int) (nl:Option Bool) (l:List (List UInt8)),z8aa l<1099510000000∧ds=[i64 tag,.sl .plain nl l.length (sts l)],fun ds=> .agg (bys (z6Wa (asI (nth ds 0)) (gSs (gCs (nth ds 1)))))⟩
def z1Ba:z4a:=⟨fun ds=>∃n,z1n n∧ds=[i64 n],fun ds=> .sl (.own 1) none (z4Ua (asI (nth ds 0))).length (bys (z4Ua (asI (nth ds 0))))⟩
def z0V:z4a:=⟨fun ds=>∃s:List UInt8,s.length≤1099511000000∧ds=[st s],fun ds=> .sl (.own 1) none (z4na (gS (nth ds 0))).length (bys (z4na (gS (nth ds 0))))⟩
theorem z3Sa {x:UInt32} {n:Int} (h0:0≤n) (h1:n≤32):z0qa.pre [u32 x,i64 n]=True:=eq_true ⟨x,n,h0,h1,rfl⟩
@[simp] theorem z5ec (x:UInt32) (n:Int):z0qa.post [u32 x,i64 n]=u32 (z01 x n.toNat):=by simp[z0qa]
theorem z9db {b:List UInt8} {nl:Option Bool} {n:Nat} (hn:n=64) (h:b.length=64):z3M.pre [.sl .plain nl n (bys b)]=True:=eq_true ⟨nl,b,h,by rw[hn]⟩
@[simp] theorem z95b (b:List UInt8) (nl:Option Bool) (n:Nat):z3M.post [.sl .plain nl n (bys b)]= .agg (z3o (z5v b 64)):=by simp[z3M]
theorem z6Ya {b:List UInt8} {nl:Option Bool} {n:Nat} (hn:n=b.length) (h:b.length<1099511000000):z4V.pre [.sl .plain nl n (bys b)]=True:=eq_true ⟨nl,b,h,by rw[hn]⟩
@[simp] theorem z5Tb (b:List UInt8) (nl:Option Bool) (n:Nat):z4V.post [.sl .plain nl n (bys b)]= .sl (.own 1) (some false) (z3J b).length (bys (z3J b)):=by simp[z4V]
@[simp] theorem z1sc (l:List (List UInt8)) (nl:Option Bool) (n:Nat):fewC.post [.sl .plain nl n (sts l)]=bo (few l):=by simp[fewC]
@[simp] theorem z8lc (l:List (List UInt8)) (nl:Option Bool) (n:Nat):z2gc.post [.sl .plain nl n (sts l)]=st l.flatten:=by simp[z2gc]
theorem z6la {h:List UInt8} (hl:h.length=32):z1S.pre [.agg (bys h)]=True:=eq_true ⟨h,hl,rfl⟩
@[simp] theorem z7Sb (h:List UInt8):z1S.post [.agg (bys h)]=st h:=by simp[z1S]
@[simp] theorem z4Hb (h:List UInt8):z5fb.post [.agg (bys h)]=st h:=by simp[z5fb]
theorem z9vb {k:List UInt8} (w:UInt8) (h:k.length<1099511000000):z4Ca.pre [st k,u8 w]=True:=eq_true ⟨k,w,h,rfl⟩
@[simp] theorem z5lc (k:List UInt8) (w:UInt8):z4Ca.post [st k,u8 w]= .sl (.own 1) none 64 (bys (z54 (z1T k) w)):=by simp[z4Ca]
theorem z4Pa {l:List UInt8} {nl:Option Bool} {n:Nat} (hn:n=l.length) (h:l.length<1099511000000):z8ra.pre [.sl .plain nl n (bys l)]=True:=eq_true ⟨nl,l,h,by rw[hn]⟩
@[simp] theorem z5jc (l:List UInt8) (nl:Option Bool) (n:Nat):z8ra.post [.sl .plain nl n (bys l)]= .agg (bys (sha l)):=by simp[z8ra]
theorem z8rb {k m:List UInt8} (hk:k.length<1099511000000) (hm:m.length<1099510000000):z8za.pre [st k,st m]=True:=eq_true ⟨k,m,hk,hm,rfl⟩
@[simp] theorem z8rc (k m:List UInt8):z8za.post [st k,st m]=st (mac k m):=by simp[z8za]
@[simp] theorem z14b (l:List UInt8) (nl:Option Bool) (n:Nat):z4zb.post [.sl .plain nl n (bys l)]= .agg (bys ((sha l).take 16)):=by simp[z4zb]
@[simp] theorem z17b (tag:Int) (nl:Option Bool) (n:Nat) (l:List (List UInt8)):z0yb.post [i64 tag,.sl .plain nl n (sts l)]= .sl (.own 1) (some false) (z95a tag l).length (bys (z95a tag l)):=by simp[z0yb]
@[simp] theorem z1Dc (tag:Int) (nl:Option Bool) (n:Nat) (l:List (List UInt8)):rofC.post [i64 tag,.sl .plain nl n (sts l)]= .agg (bys (z6Wa tag l)):=by simp[rofC]
theorem z1wb {n:Int} (h0: -9223372036854775808≤n) (h1:n≤9223372036854775807):z1Ba.pre [i64 n]=True:=eq_true ⟨n,⟨h0,h1⟩,rfl⟩
@[simp] theorem z6rc (n:Int):z1Ba.post [i64 n]= .sl (.own 1) none (z4Ua n).length (bys (z4Ua n)):=by simp[z1Ba]
theorem z1pa {s:List UInt8} (h:s.length≤1099511000000):z0V.pre [st s]=True:=eq_true ⟨s,h,rfl⟩
@[simp] theorem z6Tb (s:List UInt8):z0V.post [st s]= .sl (.own 1) none (z4na s).length (bys (z4na s)):=by simp[z0V]
@[simp] theorem z3wc (n:Int):z0vb.post [i64 n]= .sl (.own 1) (some false) (z4Ua n).length (bys (z4Ua n)):=by simp[z0vb]
end Go.Abs
end

section
namespace Go.Abs
end Go.Abs
end

section
namespace Go.Abs
def fl (h c:UInt8):UInt8:=if h<128 then 255-c else c
def kOf (h:UInt8):Nat:=(fl h h).toNat-128
def z4Gc (l:List UInt8):Nat:=l.foldl (fun a c=>256*a+c.toNat) 0
def z5Cb:List UInt8→Int×Nat×Nat
 |[]=>(0,0,5)
 |h::t=>
  if 8<kOf h then(0,0,6) else if t.length<kOf h then(0,0,5)
  else if 0<kOf h∧fl h (at8 t 0)=0 then(0,0,6)
  else if 2^63≤z4Gc ((t.take (kOf h)).map (fl h)) then(0,0,6)
  else(if h<128 then-1-(z4Gc ((t.take (kOf h)).map (fl h)):Int) else z4Gc ((t.take (kOf h)).map (fl h)),kOf h+1,0)

end Go.Abs
end

section
namespace Go.Abs
def tri (v:z2a) (n e:Nat):z2a:= .tup [v,i64 n,i64 e]
@[simp] theorem z3Mc (v:z2a) (n e:Nat):dem (tri v n e)=tri v n e:=rfl
@[simp] theorem z68b (v:z2a) (n e:Nat):z1f (tri v n e)=z1f v:=by simp[tri,z4h]
def onB (f:List UInt8→z2a):z4a:=⟨fun ds=>∃nl b,b.length≤1000000000∧ds=[.sl .plain nl b.length (bys b)],fun ds=>f (gBs (gCs (nth ds 0)))⟩
@[simp] theorem z2zc (f:List UInt8→z2a) (m:z33) (nl:Option Bool) (n:Nat) (b:List UInt8):(onB f).post [.sl m nl n (bys b)]=f b:=by simp[onB]
def z7hc:z4a:=⟨fun ds=>∃nl nl' a b,a.length≤1000000000∧ds=[.sl .plain nl a.length (bys a),.sl .plain nl' b.length (bys b)],fun ds=>bo (gBs (gCs (nth ds 0))==gBs (gCs (nth ds 1)))⟩
@[simp] theorem z98b (m m':z33) (nl nl':Option Bool) (n k:Nat) (a b:List UInt8):z7hc.post [.sl m nl n (bys a),.sl m' nl' k (bys b)]=bo (a==b):=by simp[z7hc]
def onC (f:List UInt8→Nat→z2a):z4a:=⟨fun ds=>∃nl b,∃s:Nat,b.length≤1000000000∧0<s∧s≤1000∧ds=[.sl .plain nl b.length (bys b),i64 s],fun ds=>f (gBs (gCs (nth ds 0))) (asI (nth ds 1)).toNat⟩
@[simp] theorem z1Ac (f:List UInt8→Nat→z2a) (m:z33) (nl:Option Bool) (n:Nat) (b:List UInt8) (s:Int):(onC f).post [.sl m nl n (bys b),i64 s]=f b s.toNat:=by simp[onC]
def z68 (l:List Int):List z2a:=l.map i64
def gIs (l:List z2a):List Int:=l.map asI
@[simp] theorem z2Xb (l:List Int):(z68 l).length=l.length:=by simp[z68]
@[simp] theorem z7wc:z68 []=[]:=rfl
@[simp] theorem z0ac (l:List Int) (n:Nat):(z68 l).take n=z68 (l.take n):=by simp[z68]
@[simp] theorem z0qc (l:List Int) (n:Nat):(z68 l).drop n=z68 (l.drop n):=by simp[z68]
@[simp] theorem z1Cc (l:List Int):gIs (z68 l)=l:=by simp[gIs,z68,Function.comp_def]
theorem z85 {P:z2a→Prop} {l:List Int} (h:∀x,P (i64 x)):∀c∈z68 l,P c:=fun c hc=>by
 simp only[z68,List.mem_map] at hc
 obtain⟨x,_,rfl⟩:=hc
 exact h x
@[simp] theorem z9bc (l:List Int):(∀c∈z68 l,z1f c=true)↔True:=iff_true_intro (z85 (by simp))
@[simp] theorem z64b (l:List Int):z4h (z68 l)=true:=z05 (z85 (by simp))
@[simp] theorem z0fc (l:List Int):(∀c∈z68 l,z9c c)↔True:=iff_true_intro (z85 (by simp))
@[simp] theorem z8tc (l:List Int):(∀c∈z68 l,z6g c=false)↔True:=iff_true_intro (z85 (by simp))
@[simp] theorem z0ib (l:List Int):(∀c∈z68 l,z1f c=true∧z9c c)↔True:=iff_true_intro (z85 (by simp))
@[simp] theorem z8Zb (l:List Int):z2l (z68 l)=[]:=by induction l<;>simp_all [z68]

def z29a:CM:=⟨[],[2,3],fun ds=>∃nl b,∃i:Nat,b.length≤1000000000∧i≤b.length∧ds=[.sl .plain nl b.length (bys b),i64 i],fun _=> .fn 61 [] [.bp 2 0,.bp 3 0],fun ds j=>if j=2 then [nth ds 0] else [nth ds 1]⟩
def z85b (ds:List z2a):List UInt8:=gBs (gCs (hdA (gCs (nth ds 0))))
def z1Bb (ds:List z2a):Nat:=(asI (hdA (gCs (nth ds 1)))).toNat
def z3Ga:CM:=⟨[0,1],[],fun ds=>∃nl b,∃i:Nat,b.length≤1000000000∧i≤b.length∧ds=[.ep [.sl .plain nl b.length (bys b)],.ep [i64 i]],
 fun ds=>tri (i64 (z5Cb ((z85b ds).drop (z1Bb ds))).1) (z1Bb ds+(z5Cb ((z85b ds).drop (z1Bb ds))).2.1) (z5Cb ((z85b ds).drop (z1Bb ds))).2.2,
 fun ds j=>if j=0 then [hdA (gCs (nth ds 0))] else [i64 ((z1Bb ds+(z5Cb ((z85b ds).drop (z1Bb ds))).2.1:Nat):Int)]⟩
@[simp] theorem z9Kc:z29a.bx=[]:=rfl
@[simp] theorem z9Ic:z29a.nb=[2,3]:=rfl
@[simp] theorem z0pc (ds:List z2a):z29a.post ds= .fn 61 [] [.bp 2 0,.bp 3 0]:=rfl
@[simp] theorem z4kc (x y:z2a):z29a.out [x,y] 2=[x]:=rfl
@[simp] theorem z88b (x y:z2a):z29a.out [x,y] 3=[y]:=rfl
@[simp] theorem z0Pc:z3Ga.bx=[0,1]:=rfl
@[simp] theorem z8Kc:z3Ga.nb=[]:=rfl
@[simp] theorem z4jc (m:z33) (nl:Option Bool) (n:Nat) (b:List UInt8) (i:Int):z3Ga.post [.ep [.sl m nl n (bys b)],.ep [i64 i]]=tri (i64 (z5Cb (b.drop i.toNat)).1) (i.toNat+(z5Cb (b.drop i.toNat)).2.1) (z5Cb (b.drop i.toNat)).2.2:=by simp[z3Ga,z85b,z1Bb]
@[simp] theorem z58b (x:z2a) (y:z2a):z3Ga.out [.ep [x],y] 0=[x]:=rfl
@[simp] theorem z4ac (m:z33) (nl:Option Bool) (n:Nat) (b:List UInt8) (i:Int):z3Ga.out [.ep [.sl m nl n (bys b)],.ep [i64 i]] 1=[i64 ((i.toNat+(z5Cb (b.drop i.toNat)).2.1:Nat):Int)]:=by simp[z3Ga,z85b,z1Bb]

/-! ### So many elements, one after the other -/
def pre {α:Type} (out:List α) (r:List α×Nat×Nat):List α×Nat×Nat:=if r.2.2≠0 then([],0,r.2.2) else(out++r.1,r.2.1,0)
@[simp] theorem z7yb (l:List (List UInt8)):z1b (sts l)=true:=by induction l<;>simp_all [sts,z1b,z2b,st]
end Go.Abs
end

section
namespace Go.Abs
def onIs (f:List Int→z2a):z4a:=⟨fun ds=>∃nl l,l.length≤100000000∧(∀x∈l,z1n x)∧ds=[.sl .plain nl l.length (z68 l)],fun ds=>f (gIs (gCs (nth ds 0)))⟩
@[simp] theorem z2ic (f:List Int→z2a) (m:z33) (nl:Option Bool) (n:Nat) (l:List Int):(onIs f).post [.sl m nl n (z68 l)]=f l:=by simp[onIs]
def onSs (f:List (List UInt8)→z2a):z4a:=⟨fun ds=>∃nl l,z8aa l≤1000000000∧ds=[.sl .plain nl l.length (sts l)],fun ds=>f (gSs (gCs (nth ds 0)))⟩
@[simp] theorem z2kc (f:List (List UInt8)→z2a) (m:z33) (nl:Option Bool) (n:Nat) (l:List (List UInt8)):(onSs f).post [.sl m nl n (sts l)]=f l:=by simp[onSs]
def onDs (f:Nat→List UInt8→z2a):z4a:=⟨fun ds=>∃nl n d,n≤10000000∧d.length=n*16∧ds=[.sl .plain nl n (bys d)],fun ds=>f (z3v (nth ds 0)) (gBs (gCs (nth ds 0)))⟩
@[simp] theorem z2hc (f:Nat→List UInt8→z2a) (m:z33) (nl:Option Bool) (n:Nat) (d:List UInt8):(onDs f).post [.sl m nl n (bys d)]=f n d:=by simp[onDs]
def z5Db:z4a:=⟨fun ds=>∃nl nl' a b,a.length≤1000000000∧ds=[.sl .plain nl a.length (z68 a),.sl .plain nl' b.length (z68 b)],fun ds=>bo (gIs (gCs (nth ds 0))==gIs (gCs (nth ds 1)))⟩
@[simp] theorem z20b (m m':z33) (nl nl':Option Bool) (n k:Nat) (a b:List Int):z5Db.post [.sl m nl n (z68 a),.sl m' nl' k (z68 b)]=bo (a==b):=by simp[z5Db]
def z1Db:z4a:=⟨fun ds=>∃nl nl' a b,a.length≤1000000000∧ds=[.sl .plain nl a.length (sts a),.sl .plain nl' b.length (sts b)],fun ds=>bo (gSs (gCs (nth ds 0))==gSs (gCs (nth ds 1)))⟩
@[simp] theorem z65b (m m':z33) (nl nl':Option Bool) (n k:Nat) (a b:List (List UInt8)):z1Db.post [.sl m nl n (sts a),.sl m' nl' k (sts b)]=bo (a==b):=by simp[z1Db]
def z3Fb:z4a:=⟨fun ds=>∃nl nl' n m a b,n≤10000000∧a.length=n*16∧b.length=m*16∧ds=[.sl .plain nl n (bys a),.sl .plain nl' m (bys b)],fun ds=>bo (gBs (gCs (nth ds 0))==gBs (gCs (nth ds 1)))⟩
@[simp] theorem z10b (m m':z33) (nl nl':Option Bool) (n k:Nat) (a b:List UInt8):z3Fb.post [.sl m nl n (bys a),.sl m' nl' k (bys b)]=bo (a==b):=by simp[z3Fb]
end Go.Abs
end

section
namespace Go.Abs
set_option maxRecDepth 100000
def z7V:z9a:=
 .region [7,12,13,14] [] [
 ⟨some 18,none,.mv true (.s 7)⟩,
 ⟨some 19,none,.mv false (.s 9)⟩,
 ⟨some 20,none,.call 7 [(.s 19)] []⟩,
 ⟨some 21,none,.append 1 1 false (some false) none 18 (.s 20)⟩,
 ⟨some 7,none,.mv true (.s 21)⟩]
def z2V:z9a:=
 .seq (
 .block 1 (
 .seq (
 .region [7,9,12,13,14] [] [
 ⟨some 16,none,.idxSl 1 (.s 12) (.s 14)⟩,
 ⟨some 17,none,.load none none false (.s 16)⟩,
 ⟨some 9,none,.mv false (.s 17)⟩]) (
 z7V))) (
 .region [7,12,13,14] [] [
 ⟨some 22,none,.bin .add (.s 14) (.c (i64 1))⟩,
 ⟨some 14,none,.mv false (.s 22)⟩])
def z3V:z9a:=
 .seq (
 .cond (.s 15) (
 .ghost (.keep [7,12,13,14]) .skip) (
 .ghost (.keep [7]) (.exit 0))) (
 z2V)
def z4U:z9a:=
 .seq (
 .region [7,12,13,14,15] [] [
 ⟨some 15,none,.bin .lss (.s 14) (.s 13)⟩]) (
 z3V)
def z0X:z9a:=
 .block 0 (
 .loop z4U)
def z8U:z9a:=
 .seq (
 .region [6] [] [
 ⟨some 23,none,.mv false (.s 0)⟩,
 ⟨some 24,none,.mv true (.s 7)⟩,
 ⟨some 25,none,.toStr none (.s 24)⟩,
 ⟨some 26,none,.call 6 [(.s 23),(.s 25)] []⟩,
 ⟨some 6,none,.mv false (.s 26)⟩]) (
 .ret)
def z9U:z9a:=
 .seq (
 .seq (
 .region [7,12,13,14] [] [
 ⟨some 12,none,.mv false (.s 2)⟩,
 ⟨some 13,none,.len false (.s 12)⟩,
 ⟨some 14,none,.mv false (.c (i64 0))⟩]) (
 z0X)) (
 z8U)
def z6X:z9a:=
 .seq (
 .region [7] [] [
 ⟨some 10,none,.mv false (.s 1)⟩,
 ⟨some 11,none,.call 7 [(.s 10)] []⟩,
 ⟨some 7,none,.mv true (.s 11)⟩]) (
 z9U)
def z3r:z2p:=
 {n:=3,wr:=[],res:=[.t 6],body:=
 .seq (
 .region [] [] [
 ⟨some 6,none,.mv false (.c (st []))⟩]) (
 z6X)}

def z8y:z9a:=
 .seq (
 .region [6] [] [
 ⟨some 7,none,.mv false (.s 0)⟩,
 ⟨some 8,none,.mv false (.s 1)⟩,
 ⟨some 9,none,.mv false (.s 2)⟩,
 ⟨some 10,none,.call 77 [(.s 8),(.s 9)] []⟩,
 ⟨some 11,none,.call 18 [(.s 7),(.s 10)] []⟩,
 ⟨some 6,none,.mv false (.s 11)⟩]) (
 .ret)
def z0g:z2p:=
 {n:=3,wr:=[],res:=[.t 6],body:=
 .seq (
 .region [] [] [
 ⟨some 6,none,.mv false (.c (st []))⟩]) (
 z8y)}

def z4A:z9a:=
 .cond (.s 14) (
 .ghost (.keep [5,6]) .skip) (
 .ghost (.keep [5]) (.exit 0))
def z9A:z9a:=
 .seq (
 .block 1 (
 .region [5,6] [] [
 ⟨some 17,none,.mv true (.s 5)⟩,
 ⟨some 18,none,.mv false (.s 1)⟩,
 ⟨some 19,none,.mv false (.s 6)⟩,
 ⟨some 20,none,.idxSl 1 (.s 18) (.s 19)⟩,
 ⟨some 21,none,.load none none false (.s 20)⟩,
 ⟨some 22,none,.call 29 [(.s 21)] []⟩,
 ⟨some 23,none,.append 1 1 false (some false) none 17 (.s 22)⟩,
 ⟨some 5,none,.mv true (.s 23)⟩])) (
 .region [5,6] [] [
 ⟨some 15,none,.mv false (.s 6)⟩,
 ⟨some 16,none,.bin .add (.s 15) (.c (i64 1))⟩,
 ⟨some 6,none,.mv false (.s 16)⟩])
def z8A:z9a:=
 .seq (
 .seq (
 .region [5,6,14] [] [
 ⟨some 11,none,.mv false (.s 6)⟩,
 ⟨some 12,none,.mv false (.s 1)⟩,
 ⟨some 13,none,.len false (.s 12)⟩,
 ⟨some 14,none,.bin .lss (.s 11) (.s 13)⟩]) (
 z4A)) (
 z9A)
def z5A:z9a:=
 .block 0 (
 .loop z8A)
def z0A:z9a:=
 .seq (
 .region [4] [] [
 ⟨some 24,none,.mv true (.s 5)⟩,
 ⟨some 25,none,.toStr none (.s 24)⟩,
 ⟨some 4,none,.mv false (.s 25)⟩]) (
 .ret)
def z2A:z9a:=
 .seq (
 .seq (
 .region [5,6] [] [
 ⟨some 6,none,.mv false (.c (i64 0))⟩]) (
 z5A)) (
 z0A)
def z5z:z9a:=
 .seq (
 .region [5] [] [
 ⟨some 7,none,.buildSl 1 0 [] []⟩,
 ⟨some 8,none,.mv false (.s 0)⟩,
 ⟨some 9,none,.call 29 [(.s 8)] []⟩,
 ⟨some 10,none,.append 1 1 false (some false) none 7 (.s 9)⟩,
 ⟨some 5,none,.mv true (.s 10)⟩]) (
 z2A)
def z2h:z2p:=
 {n:=2,wr:=[],res:=[.t 4],body:=
 .seq (
 .region [] [] [
 ⟨some 4,none,.mv false (.c (st []))⟩]) (
 z5z)}

def z2K:z9a:=
 .seq (
 .region [2,3] [.norm [1,3]] [
 ⟨some 4,none,.fieldAddr 0 (.s 1)⟩,
 ⟨some 5,none,.load none (some 1) false (.s 4)⟩,
 ⟨some 6,none,.call 76 [(.s 5),(.c (st [118,97,108,117,101])),(.c (.lit (.slice none 0 0)))] []⟩,
 ⟨some 7,none,.fieldAddr 0 (.s 1)⟩,
 ⟨some 8,none,.load none (some 1) false (.s 7)⟩,
 ⟨some 9,none,.call 76 [(.s 8),(.c (st [115,101,101,100])),(.c (.lit (.slice none 0 0)))] []⟩,
 ⟨some 10,none,.build [st []] [(0,1,(.s 9))]⟩,
 ⟨some 2,none,.mv false (.s 6)⟩,
 ⟨none,none,.store (some 1) 3 false (.s 3) (.s 10)⟩]) (
 .ret)
def z6k:z2p:=
 {n:=1,wr:=[],res:=[.t 2,.cell 3 (some 1) 3],body:=
 .seq (
 .region [1,3] [.norm [1,3]] [
 ⟨some 1,none,.box 1 (some 1) false (.s 0)⟩,
 ⟨some 2,none,.mv false (.c (st []))⟩,
 ⟨some 3,none,.alloc 3 [st []]⟩]) (
 z2K)}

def z5t:z9a:=
 .seq (
 .region [2,3] [.norm [1,3]] [
 ⟨some 4,none,.fieldAddr 0 (.s 1)⟩,
 ⟨some 5,none,.load none (some 1) false (.s 4)⟩,
 ⟨some 6,none,.call 78 [(.s 5),(.c (st [118,97,108,117,101])),(.c (.lit (.slice none 0 0)))] []⟩,
 ⟨some 7,none,.fieldAddr 0 (.s 1)⟩,
 ⟨some 8,none,.load none (some 1) false (.s 7)⟩,
 ⟨some 9,none,.call 78 [(.s 8),(.c (st [115,101,101,100])),(.c (.lit (.slice none 0 0)))] []⟩,
 ⟨some 10,none,.build [st []] [(0,1,(.s 9))]⟩,
 ⟨some 2,none,.mv false (.s 6)⟩,
 ⟨none,none,.store (some 1) 3 false (.s 3) (.s 10)⟩]) (
 .ret)
def z7c:z2p:=
 {n:=1,wr:=[],res:=[.t 2,.cell 3 (some 1) 3],body:=
 .seq (
 .region [1,3] [.norm [1,3]] [
 ⟨some 1,none,.box 1 (some 1) false (.s 0)⟩,
 ⟨some 2,none,.mv false (.c (st []))⟩,
 ⟨some 3,none,.alloc 3 [st []]⟩]) (
 z5t)}

end Go.Abs
end

section
namespace Go.Abs

/-! ### strings.Builder -/
@[simp] theorem z1Ec (id:Nat) (c x:z2a) (xs:List z2a):z0U 0 id c x xs={val:=i64 (z3v c)}:=rfl
@[simp] theorem z2Fc (id:Nat) (c x:z2a) (xs:List z2a):z0U 1 id c x xs={val:= .tup [i64 (z3v x),.lit .nilIface],bx:=[(id,some [.undef,.sl (.own 1) none (z3v c+z3v x) (z9h [] c++xs)])]}:=rfl
@[simp] theorem z9Nc (id:Nat) (c x:z2a) (xs:List z2a):z0U 2 id c x xs={val:= .tup [i64 (z3v x),.lit .nilIface],bx:=[(id,some [.undef,.sl (.own 1) none (z3v c+z3v x) (z9h [] c++xs)])]}:=rfl
@[simp] theorem z4Qc (id:Nat) (nl:Option Bool) (n:Nat) (l:List UInt8) (x:z2a) (xs:List z2a):z0U 3 id (.sl (.own 1) nl n (bys l)) x xs={val:=st l,bx:=[(id,some [])]}:=by
 show({val:= .lit (.string (z4P (z5q l))),bx:=_}:Eff)=_
 rw[z41]
 rfl
theorem kT {E:Env} {c:Arg} {a b:z9a} {Q:z4m→ASt→Prop} {s:ASt} (h:arg E s.get c=bo true):awp E (.cond c a b) Q s=awp E a Q s:=by
 rw[z3e,h];simp
theorem kF {E:Env} {c:Arg} {a b:z9a} {Q:z4m→ASt→Prop} {s:ASt} (h:arg E s.get c=bo false):awp E (.cond c a b) Q s=awp E b Q s:=by
 rw[z3e,h];simp

/-! ### Iterators -/
theorem z4Za {f:Nat×Bool→ASt→Prop} {Q:IQ} {p:Nat×Bool}:(fun e st'=>z1ua f Q e p st')=z92 (fun st'=>f p st') (fun e st'=>Q e p st'):=by
 funext e st'
 cases e<;>rfl
@[simp] theorem z1hc (E:Env) (l:Nat) (el:Nat→Option (List z2a)) (c:z9a) (Q:IQ) (p:Nat×Bool) (s:ASt):z5O E l el (.plain c) Q p s=awp E c (fun e st'=>Q e p st') s:=rfl
@[simp] theorem z8xc (E:Env) (l:Nat) (el:Nat→Option (List z2a)) (c:z9a) (b:z8G) (Q:IQ) (p:Nat×Bool) (s:ASt):z5O E l el (.seq (.plain c) b) Q p s=awp E c (z92 (fun st'=>z5O E l el b Q p st') (fun e st'=>Q e p st')) s:=by
 simp only[z5O,z4Za]
@[simp] theorem z8fc (E:Env) (l:Nat) (el:Nat→Option (List z2a)) (i:Nat) (b:z8G) (Q:IQ) (p:Nat×Bool) (s:ASt):z5O E l el (.block i b) Q p s=z5O E l el b (z3la i Q) p s:=rfl
@[simp] theorem z7Ab (f:Nat×Bool→ASt→Prop) (Q:IQ) (p:Nat×Bool) (s:ASt):z1ua f Q .normal p s=f p s:=rfl
@[simp] theorem z41b (f:Nat×Bool→ASt→Prop) (Q:IQ) (i:Nat) (p:Nat×Bool) (s:ASt):z1ua f Q (.exit i) p s=Q (.exit i) p s:=rfl
@[simp] theorem z8qb (i:Nat) (Q:IQ) (p:Nat×Bool) (s:ASt):z3la i Q .normal p s=Q .normal p s:=rfl
@[simp] theorem z2Kb (i:Nat) (Q:IQ) (p:Nat×Bool) (s:ASt):z3la i Q (.exit i) p s=Q .normal p s:=by simp[z3la]
def z1Hb (E:Env) (f:ASt→Prop):List z7i→ASt→Prop
 |[],st=>f st
 |o::os,st=>okA E o st∧z1Hb E f os (z7h E o st)
attribute [simp] z1Hb
theorem z8Fa (E:Env) (f:ASt→Prop):∀(xs:List z7i) (st:ASt),z1Hb E f xs st=(z2T E xs st∧f (z62 E xs st))
 |[],st=>by simp only[z1Hb,z2T,z62,true_and]
 |o::os,st=>by simp only[z1Hb,z2T,z62,z8Fa E f os];exact propext and_assoc.symm
@[simp] theorem z0ic (E:Env) (l:Nat) (el:Nat→Option (List z2a)) (keep:List Nat) (gs:List z2y) (xs:List z7i) (d:Option Nat) (y:Nat) (as:List Arg) (zs:List z7i) (Q:IQ) (p:Nat×Bool) (s:ASt):
  z5O E l el (.yield keep gs xs d y as zs) Q p s=((∀s'∈d.toList,lk s.org s'=none)∧z1Hb E (fun st0=>p.2=false∧el p.1=some (as.map (arg E (z7ca st0).get))∧z1b (as.map (arg E (z7ca st0).get))=true∧(z7ca st0).get y= .lit (.func (.yield l) #[] #[])∧(∀q∈(z7ca st0).box,∀cs,q.2=some cs→cs.all yOk=true∧q.1<1000000)∧
   ∀b:Bool,z70a E keep gs (fun e s=>Q e (if b then(p.1+1,false) else(p.1,true)) s) zs (z82a d b (z7ca st0))) xs s):=by
 simp only[z8Fa,z8pa,z5O]
 apply propext
 constructor
 ·rintro⟨h1,h2,h3,h4,h5,h6,h8,h9⟩
  exact⟨h2,h1,h3,h4,h5,h6,h8,h9⟩
 ·rintro⟨h2,h1,h3,h4,h5,h6,h8,h9⟩
  exact⟨h1,h2,h3,h4,h5,h6,h8,h9⟩
@[simp] theorem z2qc (d:Nat) (b:Bool) (o e:List (Nat×z2a)) (bx:List (Nat×Option (List z2a))):z82a (some d) b ⟨o,e,bx⟩=⟨o,(d,bo b)::e,bx⟩:=rfl
@[simp] theorem z0jc (b:Bool) (o e:List (Nat×z2a)) (bx:List (Nat×Option (List z2a))):z82a none b ⟨o,e,bx⟩=⟨o,e,bx⟩:=rfl
@[simp] theorem z1Rc (o e:List (Nat×z2a)) (b:List (Nat×Option (List z2a))):z7ca ⟨o,e,b⟩=⟨o,e.map fun q=>(q.1,if yOk q.2 then q.2 else .undef),b⟩:=rfl
@[simp] theorem yOk_ep (cs:List z2a):yOk (.ep cs)=false:=rfl
@[simp] theorem yOk_sl (m:z33) (nl:Option Bool) (n:Nat) (cs:List z2a):yOk (.sl m nl n cs)=z2b (.sl m nl n cs):=rfl
@[simp] theorem z7rc:yOk .undef=true:=rfl
@[simp] theorem yOk_bp (i o:Nat):yOk (.bp i o)=true:=rfl
@[simp] theorem z4Lc (v:Value):yOk (.lit v)=true:=rfl
@[simp] theorem yOk_st (l:List UInt8):yOk (st l)=true:=rfl
@[simp] theorem yOk_bo (b:Bool):yOk (bo b)=true:=rfl
@[simp] theorem z7Oc (n:Int):yOk (i64 n)=true:=rfl
@[simp] theorem z8Rc (cs:List z2a):yOk (.agg cs)=z1b cs:=rfl
@[simp] theorem z2Nc (cs:List z2a):yOk (.tup cs)=z1b cs:=rfl
@[simp] theorem z4vc (E:Env) (l:Nat) (el:Nat→Option (List z2a)) (keep:List Nat) (gs:List z2y) (xs:List z7i) (d:Option Nat) (y:Nat) (as:List Arg) (zs:List z7i) (b:z8G) (Q:IQ) (p:Nat×Bool) (s:ASt):
  z5O E l el (.seq (.yield keep gs xs d y as zs) b) Q p s=z5O E l el (.yield keep gs xs d y as zs) (z1ua (fun p st=>z5O E l el b Q p st) Q) p s:=rfl
theorem z3Ua {E:Env} {l:Nat} {el:Nat→Option (List z2a)} {b:z8G} {Q:IQ} {p:Nat×Bool} {s:ASt} (h:∀Q',Q'=Q→z5O E l el b Q' p s):z5O E l el b Q p s:=h Q rfl
theorem z1qb {E:Env} {l:Nat} {el:Nat→Option (List z2a)} {b:z8G} {Q:IQ} {p:Nat×Bool} {s:ASt} (I:Nat×Bool→ASt→Prop) (h0:I p s)
  (h:∀p s,I p s→∀Q',(∀p' s',I p' s'→p.2=false→(p'=(p.1+1,false)∨p'=(p.1,true))→Q' .normal p' s')→(∀i p' s',Q' (.exit i) p' s'=Q (.exit i) p' s')→z5O E l el b Q' p s):z5O E l el (.loop b) Q p s:=
 ⟨I,h0,fun p s hi=>h p s hi _ (fun p' s' h1 h2 h3=>⟨h1,h2,h3⟩) (fun _ _ _=>rfl)⟩

def minW (x y:z2a):z2a:=match x,y with| .lit (.int k a),.lit (.int _ b)=> .lit (.int k (if b<a then b else a))|_,_=> .undef
theorem z3T (E:Env) (get:Nat→z2a) (getB:Nat→Option (List z2a)) (x y:Arg):eff E get getB (.min2 x y)={val:=minW (arg E get x) (arg E get y)}:=rfl
theorem z6S (a b:Int):minW (i64 a) (i64 b)=i64 (if b<a then b else a):=rfl

/-! ### What is computed -/
def inp (label:List UInt8) (parts:List (List UInt8)):List UInt8:=z4na label++parts.flatMap z4na
def drv (key label:List UInt8) (parts:List (List UInt8)):List UInt8:=mac key (inp label parts)
theorem z61 (k l:List UInt8) (p:List (List UInt8)):(drv k l p).length=32:=z8Ia _
attribute [simp] z61
def pth (key:List UInt8) (ls:List (List UInt8)):List UInt8:=ls.foldl (fun k l=>drv k l []) key
def z6aa:List UInt8:=[115,101,101,100]
def z9xa:List UInt8:=[118,97,108,117,101]
def sdN (s:List UInt8):Nat→List UInt8
 |0=>s
 |i+1=>drv (sdN s i) z6aa []
def vlN (s:List UInt8) (i:Nat):List UInt8:=drv (sdN s i) z9xa []
def stN (s:List UInt8):Nat→List UInt8
 |0=>[]
 |i+1=>stN s i++vlN s i
def blkN (n:Int):Nat:=(n.toNat+31)/32
def bysN (s:List UInt8) (n:Int):List UInt8:=if n≤0∨8000<n then [] else(stN s (blkN n)).take n.toNat
def aftN (s:List UInt8) (n:Int):List UInt8:=if n≤0∨8000<n then s else sdN s (blkN n)

def z2Ta:z4a:=⟨fun ds=>∃(key label:List UInt8) (nl:Option Bool) (parts:List (List UInt8)),key.length<1000000000∧label.length<1000000000∧z8aa parts<1000000000∧ds=[st key,st label,.sl .plain nl parts.length (sts parts)],fun ds=>st (drv (gS (nth ds 0)) (gS (nth ds 1)) (gSs (gCs (nth ds 2))))⟩
def z2Eb:z4a:=⟨fun ds=>∃(label:List UInt8) (nl:Option Bool) (parts:List (List UInt8)),label.length<1000000000∧z8aa parts<1000000000∧ds=[st label,.sl .plain nl parts.length (sts parts)],fun ds=>st (inp (gS (nth ds 0)) (gSs (gCs (nth ds 1))))⟩
def pthC:z4a:=⟨fun ds=>∃(key:List UInt8) (nl:Option Bool) (ls:List (List UInt8)),key.length<1000000000∧z8aa ls<1000000000∧ds=[st key,.sl .plain nl ls.length (sts ls)],fun ds=>st (pth (gS (nth ds 0)) (gSs (gCs (nth ds 1))))⟩
def gR (d:z2a):List UInt8:=gS (nth (gCs d) 0)
def z2Ya:z4a:=⟨fun ds=>∃s:List UInt8,s.length<1000000000∧ds=[.agg [st s]],fun ds=> .tup [st (drv (gR (nth ds 0)) z9xa []),.agg [st (drv (gR (nth ds 0)) z6aa [])]]⟩
def z7fc:z4a:=⟨fun ds=>∃(s:List UInt8) (n:Int),s.length<1000000000∧z1n n∧ds=[.agg [st s],i64 n],fun ds=> .tup [st (bysN (gR (nth ds 0)) (asI (nth ds 1))),.agg [st (aftN (gR (nth ds 0)) (asI (nth ds 1)))]]⟩
def z6Mc:ItC:=⟨fun x y=>∃s:List UInt8,s.length<1000000000∧x=[.agg [st s]]∧y=[],fun x _ i=>some [st (vlN (gR (nth x 0)) i),.agg [st (sdN (gR (nth x 0)) (i+1))]],[]⟩
theorem z9Xa {E:Env} {f:Nat} {t:Arg} {ks ps:List Nat} {as bd:z9a} {Q:z4m→ASt→Prop} {st:ASt} (x y:List z2a) (hx:arg E st.get t= .fn f x y) (hp:z4h (x++y)=true) (hlv:(E.I f).lv=[]) (hpre:(E.I f).pre x y) (hps:∀p∈ps,p∉ks∧lk st.org p=none) (N:Nat) (I:Nat→List (Nat×Option (List z2a))→Prop) (h0:I 0 st.box) (hb:∀i bx,I i bx→i≤N)
  (hd:∀i bx,I i bx→(E.I f).el x y i=none→Q .normal {org:=st.org,env:=z8r st ks,box:=bx})
  (hr:∀i bx xs,I i bx→(E.I f).el x y i=some xs→xs.length=ps.length∧z1b xs=true∧∀V:Nat→Value,awp E as (z92 (awp E bd (z2Ga st ks V (I (i+1)) Q)) (fun _ _=>False)) (z8ka st ks ps V xs bx)):awp E (.range f t ks ps as bd) Q st:=by
 refine⟨x,y,hx,by rw[hlv,z5hb];exact hp,by rw[hlv,z1Ka];exact hpre,hps,N,I,by rw[hlv,z0fa,z7Lb];exact h0,hb,fun i bx h he=>by rw[hlv,z0fa,z0ja];exact hd i bx h (by rw[hlv,z1Ka] at he;exact he),fun i bx xs h he=> ?_⟩
 obtain⟨h1,h2,h3⟩:=hr i bx xs h (by rw[hlv,z1Ka] at he;exact he)
 refine⟨h1,h2,fun V=> ?_⟩
 have e:z2Ga st ks V (I (i+1)) (fun e s=>z4Ja st ks [] Q e s.box)=z2Ga st ks V (I (i+1)) Q:=by
  funext e s
  cases e with
  |normal=>rfl
  |exit id=>simp only[z2Ga,z0ja]
  |ret=>simp only[z2Ga,z0ja]
 rw[hlv,z0fa,z58a,e]
 exact h3 V
@[simp] theorem z9sc:z6Mc.lv=[]:=rfl
@[simp] theorem z0qb (l:Nat) (x y:List z2a):z9ab l [] x y=z9b [] (x++ .lit (.func (.yield l) #[] #[])::y):=by simp[z9ab,z9b,lvS]

theorem z1Ra {k l:List UInt8} {nl:Option Bool} (hk:k.length<1000000000) (hl:l.length<1000000000):z2Ta.pre [st k,st l,.sl .plain nl 0 []]=True:=eq_true ⟨k,l,nl,[],hk,hl,by decide,rfl⟩
@[simp] theorem z3ta (k l:List UInt8) (nl:Option Bool) (n:Nat) (p:List (List UInt8)):z2Ta.post [st k,st l,.sl .plain nl n (sts p)]=st (drv k l p):=by simp[z2Ta]
@[simp] theorem z5fc (k l:List UInt8) (nl:Option Bool) (n:Nat):z2Ta.post [st k,st l,.sl .plain nl n []]=st (drv k l []):=by
 have:=z3ta k l nl n []
 simpa using this
theorem z5Sb {l:List UInt8} {nl:Option Bool} {n:Nat} {p:List (List UInt8)} (hl:l.length<1000000000) (hp:z8aa p<1000000000) (hn:n=p.length):z2Eb.pre [st l,.sl .plain nl n (sts p)]=True:=eq_true ⟨l,nl,p,hl,hp,by rw[hn]⟩
@[simp] theorem z6lb (l:List UInt8) (nl:Option Bool) (n:Nat) (p:List (List UInt8)):z2Eb.post [st l,.sl .plain nl n (sts p)]=st (inp l p):=by simp[z2Eb]
@[simp] theorem z0zc (k:List UInt8) (nl:Option Bool) (n:Nat) (p:List (List UInt8)):pthC.post [st k,.sl .plain nl n (sts p)]=st (pth k p):=by simp[pthC]
theorem z98a {s:List UInt8} (h:s.length<1000000000):z2Ya.pre [.agg [st s]]=True:=eq_true ⟨s,h,rfl⟩
@[simp] theorem z0Qa (s:List UInt8):z2Ya.post [.agg [st s]]= .tup [st (drv s z9xa []),.agg [st (drv s z6aa [])]]:=by simp[z2Ya,gR]
@[simp] theorem z5qc (s:List UInt8) (n:Int):z7fc.post [.agg [st s],i64 n]= .tup [st (bysN s n),.agg [st (aftN s n)]]:=by simp[z7fc,gR]
theorem z4ja {l:List UInt8} {p:List (List UInt8)} (hl:l.length<1000000000) (hp:z8aa p<1000000000):(inp l p).length<3000000000:=by
 have h1:=z2Z (s:=l) (by omega)
 have h2:=z2U (l:=p) (by omega)
 rw[inp,List.length_append];omega
theorem z4la (l:List (List UInt8)) (i:Nat):z8aa (l.take i)≤z8aa l:=by
 induction l generalizing i with
 |nil=>simp
 |cons x l ih=>
  cases i with
  |zero=>simp[z8aa]
  |succ i=>have:=ih i;simp only[z8aa,List.take_succ_cons,List.map_cons,List.sum_cons] at this⊢;omega
end Go.Abs
end

section
namespace Go.Abs
structure Cmd where
 kind:Int
 key:Int
 other:Int
 type:Int
 uses:Int
 life:Int
 data:List UInt8
 list:List Int
def Cmd.ok (c:Cmd):Prop:=z1n c.kind∧z1n c.key∧z1n c.other∧z1n c.type∧z1n c.uses∧z1n c.life∧∀x∈c.list,z1n x
def cmdL (c:Cmd) (nl:Option Bool):List z2a:=[i64 c.kind,i64 c.key,i64 c.other,i64 c.type,i64 c.uses,i64 c.life,st c.data,.sl .plain nl c.list.length (z68 c.list)]
def gCmd (l:List z2a):Cmd:=⟨asI (nth l 0),asI (nth l 1),asI (nth l 2),asI (nth l 3),asI (nth l 4),asI (nth l 5),gS (nth l 6),gIs (gCs (nth l 7))⟩
@[simp] theorem z39b (c:Cmd) (nl:Option Bool):gCmd (cmdL c nl)=c:=by simp[gCmd,cmdL,nth]
def z5ha (x y:Int):Int:=IntKind.i64.wrap (BitVec.ofInt 64 x&&& ~~~BitVec.ofInt 64 y).toNat
@[simp] theorem z7hb (x y:Int):z9y .andNot (i64 x) (i64 y)=i64 (z5ha x y):=rfl
@[simp] theorem z1yb (x y:Int):z8b .andNot (i64 x) (i64 y)=True:=by simp[z8b,i64,-z41a]
@[simp] theorem z4Kb (x y:Int):z8b .and (i64 x) (i64 y)=True:=by simp[z8b,i64,-z41a]
end Go.Abs
end

section
namespace Go.Abs
structure z2d where
 id:Int
 ty:Int
 val:List UInt8
 uses:Int
 beg:Int
 fin:Int
 ver:Int
 par:Int
 raw:Bool
def z3j (k:z2d):List z2a:=[i64 k.id,i64 k.ty,st k.val,i64 k.uses,i64 k.beg,i64 k.fin,i64 k.ver,i64 k.par,bo k.raw]
def z1k (l:List z2d):List z2a:=l.flatMap z3j
instance :DecidableEq z2d:=fun a b=>decidable_of_iff (a.id=b.id∧a.ty=b.ty∧a.val=b.val∧a.uses=b.uses∧a.beg=b.beg∧a.fin=b.fin∧a.ver=b.ver∧a.par=b.par∧a.raw=b.raw) (by
 cases a;cases b;simp)
def z8Sb:z2d:=⟨0,0,[],0,0,0,0,0,false⟩
def z30:Int:=1099511627776
def z7N:Int:=2147483647
def inB (n lo hi:Int):Bool:=decide (lo≤n)&&decide (n≤hi)
def z7ea (a b:Int):Bool:=z5ha a b==0
def okK (k:z2d):Bool:=inB k.ty 0 31&&(k.val.length==32)&&z7ea k.uses 956&&inB k.beg 0 k.fin&&inB k.fin 0 z30&&inB k.ver 1 z7N&&inB k.par 0 z7N
theorem z4Fa {x:Int} (h:z1n x):W ((BitVec.ofInt 64 x).toNat:Int)=x:=by
 obtain⟨h0,h1⟩:=h
 rw[BitVec.toNat_ofInt]
 unfold W IntKind.wrap
 simp only[IntKind.bits,IntKind.signed]
 simp
 omega
theorem z4lc {a b:BitVec 64} (h:W (a.toNat:Int)=W (b.toNat:Int)):a=b:=by
 apply BitVec.eq_of_toNat_eq
 have ha:=a.isLt
 have hb:=b.isLt
 unfold W IntKind.wrap at h
 simp only[IntKind.bits,IntKind.signed] at h
 simp at h
 omega
theorem z13a {a b:BitVec 64}:a&&& ~~~b=0#64↔a&&&b=a:=by
 constructor
 ·intro h
  apply BitVec.eq_of_getLsbD_eq
  intro i hi
  have:=congrArg (fun x=>x.getLsbD i) h
  simp[hi] at this
  cases h1:a.getLsbD i<;>simp[h1] at this⊢
  exact this
 ·intro h
  apply BitVec.eq_of_getLsbD_eq
  intro i hi
  have h2:(a&&&b).getLsbD i=a.getLsbD i:=by rw[h]
  rw[BitVec.getLsbD_and] at h2
  rw[BitVec.getLsbD_and,BitVec.getLsbD_not]
  simp only[hi,decide_true,Bool.true_and]
  cases h1:a.getLsbD i<;>simp[h1] at h2⊢
  exact h2
theorem z3fb {a b:Int} (ha:z1n a):z7ea a b=(z9va a b==a):=by
 rw[Bool.eq_iff_iff,z7ea,beq_iff_eq,beq_iff_eq]
 have h0:z5ha a b=W ((BitVec.ofInt 64 a&&& ~~~BitVec.ofInt 64 b).toNat:Int):=rfl
 have h1:z9va a b=W ((BitVec.ofInt 64 a&&&BitVec.ofInt 64 b).toNat:Int):=rfl
 rw[h0,h1]
 have hz:(0:Int)=W ((0#64).toNat:Int):=rfl
 constructor
 ·intro h
  rw[hz] at h
  rw[z13a.1 (z4lc h),z4Fa ha]
 ·intro h
  have e:=z4lc (a:=BitVec.ofInt 64 a&&&BitVec.ofInt 64 b) (b:=BitVec.ofInt 64 a) (h.trans (z4Fa ha).symm)
  rw[z13a.2 e]
  rfl
structure z2k where
 next:Int
 keys:List z2d
def srt (l:List z2d):Prop:=l.Pairwise fun a b=>a.id<b.id
def okL (next:Int):Int→List z2d→Bool
 |_,[]=>true
 |last,k::l=>okK k&&decide (last<k.id)&&decide (k.id<next)&&decide (k.par<next)&&okL next k.id l
def okT (t:z2k):Bool:=decide (t.keys.length≤4096)&&decide (1≤t.next∧t.next≤z7N)&&okL t.next 0 t.keys
theorem z1ab {next:Int}:∀{last:Int} {l:List z2d},okL next last l=true→(∀k∈l,okK k=true∧last<k.id∧k.id<next∧k.par<next)∧srt l
 |_,[],_=>⟨fun k h=>(by cases h),List.Pairwise.nil⟩
 |last,a::l,h=>by
  simp only[okL,Bool.and_eq_true,decide_eq_true_eq] at h
  obtain⟨⟨⟨⟨h1,h2⟩,h3⟩,h4⟩,h5⟩:=h
  obtain⟨i1,i2⟩:=z1ab h5
  refine⟨fun k hk=> ?_,List.pairwise_cons.2 ⟨fun k hk=>(i1 k hk).2.1,i2⟩⟩
  rcases List.mem_cons.1 hk with rfl|hk
  ·exact⟨h1,h2,h3,h4⟩
  ·obtain⟨j1,j2,j3,j4⟩:=i1 k hk
   exact⟨j1,by omega,j3,j4⟩
theorem z7zb {next:Int}:∀{last:Int} {l:List z2d},(∀k∈l,okK k=true∧last<k.id∧k.id<next∧k.par<next)→srt l→okL next last l=true
 |_,[],_,_=>rfl
 |last,a::l,h,hs=>by
  obtain⟨s1,s2⟩:=List.pairwise_cons.1 hs
  obtain⟨h1,h2,h3,h4⟩:=h a (by simp)
  simp only[okL,Bool.and_eq_true,decide_eq_true_eq]
  exact⟨⟨⟨⟨h1,h2⟩,h3⟩,h4⟩,z7zb (fun k hk=>⟨(h k (by simp[hk])).1,s1 k hk,(h k (by simp[hk])).2.2⟩) s2⟩
/-! ### Looking up -/
def z80 (l:List z2d) (i:Int):Option z2d:=l.find? fun k=>decide (k.id=i)
theorem z1va {l:List z2d} {i:Int} {k:z2d} (h:z80 l i=some k):k.id=i:=by simpa using List.find?_some h
theorem z4K {l:List z2d} {i:Int} {k:z2d} (h:z80 l i=some k):k∈l:=List.mem_of_find?_eq_some h
theorem z8Ib {l:List z2d} (hs:srt l) {n:Nat} (h:n<l.length):z80 l (l[n]).id=some l[n]:=by
 induction l generalizing n with
 |nil=>simp at h
 |cons a l ih=>
  obtain⟨s1,s2⟩:=List.pairwise_cons.1 hs
  cases n with
  |zero=>simp[z80]
  |succ n=>
   have hn:n<l.length:=by simpa using h
   have:a.id<(l[n]).id:=s1 _ (List.getElem_mem hn)
   have e:(a::l)[n+1]=l[n]:=rfl
   rw[e,z80,List.find?_cons]
   have hd:decide (a.id=(l[n]).id)=false:=by simp;omega
   rw[hd]
   exact ih s2 hn
theorem z1gb {l:List z2d} {i:Int} (h:∀k∈l,k.id≠i):z80 l i=none:=by
 rw[z80,List.find?_eq_none]
 intro k hk
 simpa using h k hk
/-! ### Lines -/
def z5ia (k x:z2d):Bool:=decide (k.id<x.id)&&(x.ty==k.ty)&&(x.par==k.id)&&(x.ver==k.ver+1)
def z1R (l:List z2d) (i:Int):Option Int:=(z80 l i).bind fun k=>(l.reverse.find? (z5ia k)).map (·.id)
def z8sb (l:List z2d) (i:Int):Nat:=(l.filter fun k=>decide (i<k.id)).length
theorem z1tb {l:List z2d} {i j:Int} (h:z1R l i=some j):∃k x,z80 l i=some k∧x∈l∧z5ia k x=true∧x.id=j∧i<j:=by
 unfold z1R at h
 cases hk:z80 l i with
 |none=>rw[hk] at h;cases h
 |some k=>
  rw[hk] at h
  simp only[Option.bind_some] at h
  cases hx:l.reverse.find? (z5ia k) with
  |none=>rw[hx] at h;cases h
  |some x=>
   rw[hx] at h
   have hj:x.id=j:=by simpa using h
   have hsx:=List.find?_some hx
   have hm:=List.mem_of_find?_eq_some hx
   refine⟨k,x,rfl,List.mem_reverse.1 hm,hsx,hj,?_⟩
   have h1:=z1va hk
   simp only[z5ia,Bool.and_eq_true,decide_eq_true_eq,beq_iff_eq] at hsx
   omega
theorem z1hb {l:List z2d} {i j:Int} (h:z1R l i=some j):z8sb l j<z8sb l i:=by
 obtain⟨k,x,_,hx,_,hj,hij⟩:=z1tb h
 have key:∀l:List z2d,z8sb l j≤z8sb l i∧(x∈l→z8sb l j<z8sb l i):=by
  intro l
  induction l with
  |nil=>exact⟨Nat.le_refl _,fun h=>by cases h⟩
  |cons a l ih=>
   simp only[z8sb,List.filter_cons] at ih⊢
   obtain⟨i1,i2⟩:=ih
   by_cases h1:j<a.id
   ·have h2:i<a.id:=by omega
    simp only[h1,h2,decide_true,if_true,List.length_cons]
    refine⟨by omega,fun hm=> ?_⟩
    rcases List.mem_cons.1 hm with e|e
    ·subst e;omega
    ·have:=i2 e;omega
   ·by_cases h2:i<a.id
    ·simp only[h1,h2,decide_true,decide_false,if_true,Bool.false_eq_true,if_false,List.length_cons]
     exact⟨by omega,fun hm=>by omega⟩
    ·simp only[h1,h2,decide_false,Bool.false_eq_true,if_false]
     refine⟨i1,fun hm=> ?_⟩
     rcases List.mem_cons.1 hm with e|e
     ·subst e;omega
     ·exact i2 e
 exact(key l).2 hx
def z7z (l:List z2d) (i:Int):List Int:=
 match h:z1R l i with
 |none=>[i]
 |some j=>i::z7z l j
termination_by z8sb l i
decreasing_by exact z1hb h
theorem z6Q {l:List z2d} {i:Int} (h:z1R l i=none):z7z l i=[i]:=by
 rw[z7z];split
 ·rfl
 ·rename_i h';rw[h] at h';cases h'
theorem z6R {l:List z2d} {i j:Int} (h:z1R l i=some j):z7z l i=i::z7z l j:=by
 rw[z7z];split
 ·rename_i h';rw[h] at h';cases h'
 ·rename_i h';rw[h] at h';cases h';rfl
/-! ### Policies -/
structure z57a where
 name:List UInt8
 flags:Int
 life:Int
structure z5N where
 kind:Int
 a:Int
 b:Int
def z7sb (t:z57a):List z2a:=[st t.name,i64 t.flags,i64 t.life]
def z3Z (r:z5N):List z2a:=[i64 r.kind,i64 r.a,i64 r.b]
structure z86b where
 cmd:Int
 cnt:Int
 del:Int
 val:Int
 uses:Int
def z31b (q:z86b):List z2a:=[i64 q.cmd,i64 q.cnt,i64 q.del,i64 q.val,i64 q.uses]
structure z9n where
 name:List UInt8
 types:List z57a
 rules:List z5N
 quos:List z86b
def z0la (p:z9n) (t:Int):z57a:=p.types.getD t.toNat ⟨[],0,0⟩
def z2W (p:z9n) (t:Int):Bool:=decide (0≤t∧t<p.types.length)
def z0Ga (p:z9n) (t f:Int):Bool:=z2W p t&&z7ea f (z0la p t).flags
end Go.Abs
end

section
namespace Go.Abs
theorem z7f {P:Nat×Bool→Prop} {l m:List (Nat×Bool)} (h:l.all (fun p=>m.contains p)=true) (hm:∀p∈m,P p):∀p∈l,P p:=fun p hp=>by
 have:=List.all_eq_true.1 h p hp
 exact hm p (by simpa using this)
end Go.Abs
end
