/- Lemmas: an abstract interpreter, and what the functions compute. -/
import Derived.Test.YtkccmbjmlpnejaaDoorC
import Derived.Deep.DeepHandedRow
import Derived.Lib.LaidTab
import Derived.ChangeBears
import Derived.Carry
import Derived.OpenShut
import Derived.ChangeSame
import Derived.Test.YtkccmbjmlpnejaaDoorD
set_option linter.unusedSimpArgs false
set_option linter.unusedVariables false
set_option linter.unusedSectionVars false
section
namespace Go.Abs

inductive GT where
 |bool
 |int (k:IntKind)
 |str
 |sl (e:GT)
 |arr (n:Nat) (e:GT)
 |st (fs:List GT)

mutual
def GT.has:GT→List z2a→Prop
 | .bool,cs=>∃b,cs=[.lit (.bool b)]
 | .int k,cs=>∃n,cs=[.lit (.int k n)]∧k.min≤n∧n≤k.max
 | .str,cs=>∃s:ByteArray,cs=[.lit (.string s)]∧s.size≤maxLen
 | .sl e,cs=>∃ess:List (List z2a),(∀c∈ess,e.has c)∧cs=[.sl .plain none ess.length ess.flatten]∧ess.length≤maxLen
 | .arr n e,cs=>∃ess:List (List z2a),ess.length=n∧(∀c∈ess,e.has c)∧cs=ess.flatten
 | .st fs,cs=>GT.hasL fs cs
def GT.hasL:List GT→List z2a→Prop
 |[],cs=>cs=[]
 |f::fs,cs=>∃a b,cs=a++b∧f.has a∧GT.hasL fs b
end

mutual
def GT.flat:GT→Bool
 | .sl _=>false
 | .arr _ e=>e.flat
 | .st fs=>GT.flatL fs
 |_=>true
def GT.flatL:List GT→Bool
 |[]=>true
 |f::fs=>f.flat&&GT.flatL fs
end

mutual
def GT.fits (P:Program):GT→TypeId→Bool
 | .bool,t=>match P.underlying t with|some .bool=>true|_=>false
 | .int k,t=>match P.underlying t with|some (.int k')=>k==k'|_=>false
 | .str,t=>match P.underlying t with|some .string=>true|_=>false
 | .sl e,t=>match P.underlying t with|some (.slice t')=>e.fits P t'&&(P.cellsOf t' !=0)|_=>false
 | .arr n e,t=>match P.underlying t with|some (.array n' t')=>n==n'&&e.fits P t'|_=>false
 | .st fs,t=>match P.underlying t with|some (.struct F)=>GT.fitsL P fs (F.toList.map (·.type))|_=>false
def GT.fitsL (P:Program):List GT→List TypeId→Bool
 |[],[]=>true
 |f::fs,t::ts=>f.fits P t&&GT.fitsL P fs ts
 |_,_=>false
end

mutual
def wt:z2a→Nat
 | .lit (.string s)=>s.size+1
 | .sl _ _ _ cs=>wtL cs+1
 | .agg cs=>wtL cs
 |_=>1
def wtL:List z2a→Nat
 |[]=>0
 |c::cs=>wt c+wtL cs
end
theorem z1za (a b:List z2a):wtL (a++b)=wtL a+wtL b:=by
 induction a with
 |nil=>simp[wtL]
 |cons x a ih=>simp only[List.cons_append,wtL,ih];omega

structure z7fc {H:Type} (B:DataW H→Nat):Prop where
 lit:∀l,1≤B (.lit l)
 str:∀l,l.length+1≤B (.lit (.string l))
 nil:1≤B .nil
 slice:∀es sp,(es.map B).sum+1≤B (.slice es sp)
 agg:∀ps,(ps.map B).sum≤B (.agg ps)

section
variable {H : Type} {enc : TypeId × Value → H} {K : Cx} {S : Nat → Nat} {W : World} {B : DataW H → Nat}

theorem z6c.app {K:Con} {S:Nat→Nat} {w:World}:∀{ds ds':List z2a} {vs vs':List Value},z6c K S w ds vs→z6c K S w ds' vs'→z6c K S w (ds++ds') (vs++vs')
 |[],_,vs,_,h,h'=>by simp only[z6c] at h;subst h;simpa using h'
 |c::cs,_,vs,_,h,h'=>by
  simp only[z6c] at h
  obtain⟨x,xs,rfl,h1,h2⟩:=h
  simp only[List.cons_append,z6c]
  exact⟨x,xs++_,rfl,h1,z6c.app h2 h'⟩

noncomputable def z8na (w:World):Nat→Nat:=fun b=>match w.heap[b]? with|some (.cells c _ _)=>c.size|_=>0
theorem z5jb {w:World} {b o:Nat} {x:Value} (h:w.cell? ⟨b,o,none⟩=some x):o<z8na w b:=by
 unfold World.cell? at h
 unfold z8na
 cases hb:w.heap[b]? with
 |none=>simp[hb] at h
 |some q=>
  cases q with
  |cells c e fr=>
   simp[hb] at h
   exact(Array.getElem?_eq_some_iff.1 h).1
  |_=>simp[hb] at h

theorem z9ab {b off sz:Nat} {cs:List (List Value)} {as:List (List z2a)} (hl:as.length=cs.length) (hsz:∀(i:Nat) c,cs[i]? =some c→c.length=sz)
  (hc:∀(i:Nat) c,cs[i]? =some c→∀j,j<sz→W.cell? ⟨b,off+i*sz+j,none⟩=c[j]?) (hr:∀(i:Nat) a c,as[i]? =some a→cs[i]? =some c→z6c K.toCon (z8na W) W a c):
  z0f K.toCon (z8na W) W as.flatten b off:=by
 induction as generalizing cs off with
 |nil=>simp[z0f]
 |cons a as ih=>
  cases cs with
  |nil=>simp at hl
  |cons c cs=>
   have h0:=hr 0 a c rfl rfl
   have hlen:=h0.len
   have hcs:=hsz 0 c rfl
   have hrest:=ih (off:=off+sz) (cs:=cs) (by simpa using hl) (fun i c hi=>hsz (i+1) c (by simpa using hi)) (fun i c hi j hj=>by
    have:=hc (i+1) c (by simpa using hi) j hj
    rw[Nat.add_mul,Nat.one_mul] at this
    rw[←this]
    congr 2
    omega) (fun i a c hi hi'=>hr (i+1) a c (by simpa using hi) (by simpa using hi'))
   rw[List.flatten_cons]
   refine z0f.mk fun i d hd=> ?_
   rcases Nat.lt_or_ge i a.length with h|h
   ·rw[List.getElem?_append_left h] at hd
    obtain⟨v,hv,hp⟩:=h0.get i d hd
    have hcell:=hc 0 c rfl i (by omega)
    rw[Nat.zero_mul,Nat.add_zero,hv] at hcell
    exact⟨z5jb hcell,v,hcell,hp⟩
   ·rw[List.getElem?_append_right h] at hd
    have:=hrest.get _ d hd
    rw[show off+sz+(i-a.length)=off+i by omega] at this
    exact this

theorem z44 {α β:Type} {R:α→β→Prop}:∀(l:List α),(∀x∈l,∃y,R x y)→∃r:List β,r.length=l.length∧∀(i:Nat) x y,l[i]? =some x→r[i]? =some y→R x y
 |[],_=>⟨[],rfl,fun i x y h=>by simp at h⟩
 |x::l,h=>by
  obtain⟨y,hy⟩:=h x (by simp)
  obtain⟨r,h1,h2⟩:=z44 l fun z hz=>h z (by simp[hz])
  refine⟨y::r,by simp[h1],fun i a b ha hb=> ?_⟩
  cases i with
  |zero=>simp at ha hb;subst ha;subst hb;exact hy
  |succ i=>exact h2 i a b (by simpa using ha) (by simpa using hb)

theorem z0eb {α β:Type} {f:α→Nat} {g:β→Nat}:∀{l:List α} {r:List β},l.length=r.length→(∀(i:Nat) a b,l[i]? =some a→r[i]? =some b→f a≤g b)→(l.map f).sum≤(r.map g).sum
 |[],[],_,_=>by simp
 |[],_::_,h,_=>by simp at h
 |_::_,[],h,_=>by simp at h
 |x::l,y::r,h,hi=>by
  have h1:=hi 0 x y rfl rfl
  have h2:=z0eb (l:=l) (r:=r) (by simpa using h) fun i a b ha hb=>hi (i+1) a b (by simpa using ha) (by simpa using hb)
  simp only[List.map_cons,List.sum_cons]
  omega
theorem z8ta (l:List (List z2a)):wtL l.flatten=(l.map wtL).sum:=by
 induction l with
 |nil=>simp[wtL]
 |cons x l ih=>simp[z1za,ih]

theorem z7bb {sp:Nat→Bool} {fuel:Nat} {e:GT} {t:TypeId} (sz:Nat)
  (one:∀(cs:List Value) d p,DataW.trod enc K.P W 0 sp true fuel t cs=some (d,p)→∃as,e.has as∧z6c K.toCon (z8na W) W as cs∧wtL as≤B d)
  {css:List (List Value)} {xs:List (DataW H×List MemPlace)} (hlen:xs.length=css.length) (hx:∀(i:Nat) c,css[i]? =some c→DataW.trod enc K.P W 0 sp true fuel t c=xs[i]?):
  ∃ess:List (List z2a),ess.length=css.length∧(∀c∈ess,e.has c)∧(∀(i:Nat) a c,ess[i]? =some a→css[i]? =some c→z6c K.toCon (z8na W) W a c)∧wtL ess.flatten≤((xs.map (·.1)).map B).sum:=by
 obtain⟨ess,h1,h2⟩:=z44 (R:=fun(i:Nat) (as:List z2a)=>∃c x,css[i]? =some c∧xs[i]? =some x∧e.has as∧z6c K.toCon (z8na W) W as c∧wtL as≤B x.1) (List.range css.length) fun i hi=>by
  have hi:i<css.length:=by simpa using hi
  have hc:css[i]? =some css[i]:=List.getElem?_eq_getElem hi
  have hxi:xs[i]? =some xs[i]:=List.getElem?_eq_getElem (by omega)
  have:=hx i _ hc
  rw[hxi] at this
  obtain⟨as,k1,k2,k3⟩:=one _ xs[i].1 xs[i].2 this
  exact⟨as,_,_,hc,hxi,k1,k2,k3⟩
 have hl1:ess.length=css.length:=by simpa using h1
 have g:∀(i:Nat) a,ess[i]? =some a→∃c x,css[i]? =some c∧xs[i]? =some x∧e.has a∧z6c K.toCon (z8na W) W a c∧wtL a≤B x.1:=fun i a ha=>by
  have hi:i<ess.length:=(List.getElem?_eq_some_iff.1 ha).1
  exact h2 i i a (List.getElem?_range (by omega)) ha
 refine⟨ess,hl1,fun a ha=> ?_,fun i a c ha hc=> ?_,?_⟩
 ·obtain⟨i,hi,rfl⟩:=List.getElem_of_mem ha
  obtain⟨_,_,_,_,k,_⟩:=g i _ (List.getElem?_eq_getElem hi)
  exact k
 ·obtain⟨c',_,k1,_,_,k2,_⟩:=g i a ha
  rw[hc] at k1
  cases k1
  exact k2
 ·rw[z8ta,List.map_map]
  refine z0eb (by omega) fun i a x ha hxi=> ?_
  obtain⟨_,x',_,k1,_,_,k2⟩:=g i a ha
  rw[hxi] at k1
  cases k1
  exact k2

mutual
theorem read (hB:z7fc B) (hl:laidOutB K.P=true) {sp:Nat→Bool}:∀(gt:GT) (fuel:Nat) (t:TypeId) (cs:List Value) (d:DataW H) (p:List MemPlace),DataW.trod enc K.P W 0 sp true fuel t cs=some (d,p)→gt.fits K.P t=true→t<K.P.types.size→
  (∀b,sp b=true)→∃as,gt.has as∧z6c K.toCon (z8na W) W as cs∧wtL as≤B d
 |gt,0,t,cs,d,p,h,_,_,_=>by simp[DataW.trod] at h
 | .bool,fuel+1,t,cs,d,p,h,hf,ht,hs=>by
  simp only[GT.fits] at hf
  split at hf
  ·rename_i hu
   simp only[DataW.trod,hu] at h
   split at h<;>simp_all
   obtain⟨rfl,rfl⟩:=h
   rename_i b
   exact⟨[.lit (.bool b)],⟨b,rfl⟩,by simp[z6c,z7c],by have:=hB.lit (.bool b);simpa[wtL,wt] using this⟩
  ·cases hf
 | .int k,fuel+1,t,cs,d,p,h,hf,ht,hs=>by
  simp only[GT.fits] at hf
  split at hf
  ·rename_i k' hu
   simp only[beq_iff_eq] at hf
   subst hf
   obtain⟨n,rfl,hx,hw⟩:=DataW.trod_int hu h
   cases hx
   simp only[Lit.wf,Bool.and_eq_true,decide_eq_true_eq] at hw
   exact⟨_,⟨n,rfl,hw.1,hw.2⟩,by simp[z6c,z7c],by have:=hB.lit (.int k n);simpa[wtL,wt] using this⟩
  ·cases hf
 | .str,fuel+1,t,cs,d,p,h,hf,ht,hs=>by
  simp only[GT.fits] at hf
  split at hf
  ·rename_i hu
   obtain⟨s,rfl,hx,hw⟩:=DataW.trod_string hu h
   cases hx
   refine⟨[.lit (.string s)],⟨s,rfl,hw⟩,by simp only[z6c,z7c];exact⟨_,_,rfl,rfl,rfl⟩,?_⟩
   have:=hB.str s.data.toList
   have e:s.data.toList.length=s.size:=Array.length_toList
   simp only[wtL,wt]
   omega
  ·cases hf
 | .sl e,fuel+1,t,cs,d,p,h,hf,ht,hs=>by
  simp only[GT.fits] at hf
  split at hf
  ·rename_i t' hu
   simp only[Bool.and_eq_true,bne_iff_ne,ne_eq] at hf
   obtain⟨hf,hz⟩:=hf
   have ht':=kid_slice hl ht hu
   simp only[DataW.trod,hu] at h
   have nilc:cs=[.slice none 0 0]→d= .nil→∃as,(GT.sl e).has as∧z6c K.toCon (z8na W) W as cs∧wtL as≤B d:=by
    rintro rfl rfl
    refine⟨[.sl .plain none 0 []],⟨[],by simp,rfl,Nat.zero_le _⟩,by simp only[z6c,z7c];exact⟨_,_,rfl,.inr ⟨none,by simp⟩,rfl⟩,?_⟩
    have:=hB.nil
    simpa[wtL,wt] using this
   split at h
   all_goals (try (simp only[reduceCtorEq,Option.some.injEq,TypeDesc.slice.injEq,Prod.mk.injEq] at h))
   all_goals (try (rename_i hh;simp only[reduceCtorEq,Option.some.injEq,TypeDesc.slice.injEq] at hh))
   ·exact nilc rfl h.1.symm
   ·subst hh
    rename_i a len cap
    split at h
    ·rename_i hb
     obtain⟨hb0,hlc,hcap⟩:=hb
     simp only[Option.bind_eq_some_iff,Option.map_eq_some_iff] at h
     obtain⟨elems,hel,rest,hrest,hd⟩:=h
     cases hd
     have hlen:=mapM_some_length hel
     cases hsp:a.spot with
     |some s0=>
      rw[if_pos (hs _)] at hrest
      have bad:∀x,((W.cells? 0 (a.add (0*K.P.cellsOf t')) (K.P.cellsOf t')).bind (DataW.trod enc K.P W 0 sp true fuel t'))=some x→False:=fun x hx=>by
       obtain⟨c,h2,_⟩:=Option.bind_eq_some_iff.1 hx
       obtain⟨_,h3,h4⟩:=World.cells?_some h2
       have:=h4 0 (by omega)
       have h5:W.cell? ((a.add (0*K.P.cellsOf t')).add 0)=none:=by
        unfold World.cell?
        split
        ·rw[if_pos (by simp[Addr.add,hsp,Nat.zero_mul])]
        ·rfl
       rw[h5] at this
       have h6:=List.getElem?_eq_none_iff.1 this.symm
       omega
      have hc0:cap=0:=by
       rcases Nat.eq_zero_or_pos cap with h0|h0
       ·exact h0
       ·exfalso
        rcases Nat.eq_zero_or_pos len with hl0|hl0
        ·have h1:=mapM_some_get hrest 0 0 (List.getElem?_range (by omega))
         cases hr:rest[0]? with
         |none=>
          have:=mapM_some_length hrest
          have h7:=List.getElem?_eq_none_iff.1 hr
          simp at this
          omega
         |some x=>rw[hr] at h1;exact bad x (by simpa[hl0] using h1)
        ·have h1:=mapM_some_get hel 0 0 (List.getElem?_range (by omega))
         cases hr:elems[0]? with
         |none=>
          have h7:=List.getElem?_eq_none_iff.1 hr
          simp at hlen
          omega
         |some x=>rw[hr] at h1;exact bad x h1
      have hl0:len=0:=by omega
      subst hc0 hl0
      refine⟨[.sl .plain none 0 []],⟨[],by simp,rfl,Nat.zero_le _⟩,by simp only[z6c,z7c];exact⟨_,_,rfl,.inr ⟨some a,by simp⟩,rfl⟩,?_⟩
      have:=hB.slice (elems.map (·.1)) (rest.map (·.1))
      simp only[wtL,wt]
      omega
     |none=>
     obtain⟨b,off,spot⟩:=a
     simp only at hsp
     subst hsp
     have hget:∀i,i<len→∃c,W.cells? 0 ((⟨b,off,none⟩:Addr).add (i*K.P.cellsOf t')) (K.P.cellsOf t')=some c∧DataW.trod enc K.P W 0 sp true fuel t' c=elems[i]? :=fun i hi=>by
      have h1:=mapM_some_get hel i i (by simp[hi])
      have hi':i<elems.length:=by rw[hlen];simpa using hi
      rw[List.getElem?_eq_getElem hi'] at h1
      obtain⟨c,h2,h3⟩:=Option.bind_eq_some_iff.1 h1
      exact⟨c,h2,by rw[h3,List.getElem?_eq_getElem hi']⟩
     obtain⟨css,hcl,hcs⟩:=z44 (R:=fun(i:Nat) (c:List Value)=>W.cells? 0 ((⟨b,off,none⟩:Addr).add (i*K.P.cellsOf t')) (K.P.cellsOf t')=some c∧DataW.trod enc K.P W 0 sp true fuel t' c=elems[i]?) (List.range len) (fun i hi=>hget i (by simpa using hi))
     simp only[List.length_range] at hcl hlen
     have hcs':∀(i:Nat) c,css[i]? =some c→W.cells? 0 ((⟨b,off,none⟩:Addr).add (i*K.P.cellsOf t')) (K.P.cellsOf t')=some c∧DataW.trod enc K.P W 0 sp true fuel t' c=elems[i]? :=fun i c hc=>by
      have hi:i<css.length:=(List.getElem?_eq_some_iff.1 hc).1
      exact hcs i i c (List.getElem?_range (by omega)) hc
     obtain⟨ess,k1,k2,k3,k4⟩:=z7bb (K.P.cellsOf t') (fun c d p hh=>read hB hl e fuel t' c d p hh hf ht' hs) (css:=css) (xs:=elems) (by omega) (fun i c hc=>(hcs' i c hc).2)
     refine⟨_,⟨ess,k2,rfl,by omega⟩,?_,?_⟩
     ·simp only[z6c,z7c]
      refine⟨_,_,rfl,.inl ⟨b,off,cap,by rw[k1,hcl],by omega,?_,by simp,by simp⟩,rfl⟩
      refine z9ab (cs:=css) (sz:=K.P.cellsOf t') k1 (fun i c hc=>(World.cells?_some (hcs' i c hc).1).2.1) (fun i c hc j hj=> ?_) k3
      have:=(World.cells?_some (hcs' i c hc).1).2.2 j hj
      rw[←this,Addr.add_mid,Addr.add_mid]
     ·have:=hB.slice (elems.map (·.1)) (rest.map (·.1))
      simp only[wtL,wt]
      omega
    ·cases h
   all_goals simp_all
  ·cases hf
 | .arr n e,fuel+1,t,cs,d,p,h,hf,ht,hs=>by
  simp only[GT.fits] at hf
  split at hf
  ·rename_i n' t' hu
   simp only[Bool.and_eq_true,beq_iff_eq] at hf
   obtain⟨rfl,hf⟩:=hf
   obtain⟨ht',hct⟩:=kid_array hl ht hu
   simp only[DataW.trod,hu] at h
   split at h
   ·rename_i hlen
    simp only[Option.map_eq_some_iff] at h
    obtain⟨xs,hm,hd⟩:=h
    cases hd
    have hxl:=mapM_some_length hm
    simp only[List.length_range] at hxl
    let css:=(List.range n).map fun i=>(cs.drop (i*K.P.cellsOf t')).take (K.P.cellsOf t')
    have hcss:∀(i:Nat) c,css[i]? =some c→i<n∧c=(cs.drop (i*K.P.cellsOf t')).take (K.P.cellsOf t'):=fun i c hc=>by
     simp only[css,List.getElem?_map,Option.map_eq_some_iff] at hc
     obtain⟨j,hj,rfl⟩:=hc
     obtain⟨h1,h2⟩:=List.getElem?_eq_some_iff.1 hj
     simp only[List.length_range] at h1
     simp only[List.getElem_range] at h2
     subst h2
     exact⟨h1,rfl⟩
    obtain⟨ess,h1,h2⟩:=z44 (R:=fun(i:Nat) (as:List z2a)=>∃c x,css[i]? =some c∧xs[i]? =some x∧e.has as∧z6c K.toCon (z8na W) W as c∧wtL as≤B x.1) (List.range n) fun i hi=>by
     have hi:i<n:=by simpa using hi
     have hc:css[i]? =some ((cs.drop (i*K.P.cellsOf t')).take (K.P.cellsOf t')):=by simp[css,hi]
     have hxi:xs[i]? =some xs[i]:=List.getElem?_eq_getElem (by omega)
     have:=mapM_some_get hm i i (by simp[hi])
     rw[hxi] at this
     obtain⟨as,k1,k2,k3⟩:=read hB hl e fuel t' _ xs[i].1 xs[i].2 this hf ht' hs
     exact⟨as,_,_,hc,hxi,k1,k2,k3⟩
    have hl1:ess.length=n:=by simpa using h1
    have g:∀(i:Nat) a,ess[i]? =some a→∃c x,css[i]? =some c∧xs[i]? =some x∧e.has a∧z6c K.toCon (z8na W) W a c∧wtL a≤B x.1:=fun i a ha=>by
     have hi:i<ess.length:=(List.getElem?_eq_some_iff.1 ha).1
     exact h2 i i a (List.getElem?_range (by omega)) ha
    refine⟨_,⟨ess,hl1,fun a ha=> ?_,rfl⟩,?_,?_⟩
    ·obtain⟨i,hi,rfl⟩:=List.getElem_of_mem ha
     obtain⟨_,_,_,_,k,_⟩:=g i _ (List.getElem?_eq_getElem hi)
     exact k
    ·have flat:∀(k:Nat) (l:List (List z2a)),(∀(i:Nat) a,l[i]? =some a→z6c K.toCon (z8na W) W a ((cs.drop ((k+i)*K.P.cellsOf t')).take (K.P.cellsOf t')))→k+l.length=n→z6c K.toCon (z8na W) W l.flatten (cs.drop (k*K.P.cellsOf t')):=by
      intro k l
      induction l generalizing k with
      |nil=>
       intro _ hk
       simp only[List.length_nil,Nat.add_zero] at hk
       rw[hk,List.drop_of_length_le (by omega)]
       simp[z6c]
      |cons a l ih=>
       intro hi hk
       have h0:=hi 0 a rfl
       have hr:=ih (k+1) (fun i a ha=>by
        have:=hi (i+1) a (by simpa using ha)
        rwa[show k+(i+1)=k+1+i by omega] at this) (by simp at hk;omega)
       rw[Nat.add_zero] at h0
       have e1:cs.drop (k*K.P.cellsOf t')=(cs.drop (k*K.P.cellsOf t')).take (K.P.cellsOf t')++cs.drop ((k+1)*K.P.cellsOf t'):=by
        rw[Nat.add_mul,Nat.one_mul,←List.drop_drop,List.take_append_drop]
       rw[e1,List.flatten_cons]
       exact z6c.app h0 hr
     have:=flat 0 ess (fun i a ha=>by
      obtain⟨c,_,k1,_,_,k2,_⟩:=g i a ha
      rw[Nat.zero_add]
      rwa[(hcss i c k1).2] at k2) (by omega)
     simpa using this
    ·rw[z8ta]
     refine Nat.le_trans ?_ (hB.agg (xs.map (·.1)))
     rw[List.map_map]
     refine z0eb (by omega) fun i a x ha hxi=> ?_
     obtain⟨_,x',_,k1,_,_,k2⟩:=g i a ha
     rw[hxi] at k1
     cases k1
     exact k2
   ·cases h
  ·cases hf
 | .st fs,fuel+1,t,cs,d,p,h,hf,ht,hs=>by
  simp only[GT.fits] at hf
  split at hf
  ·rename_i F hu
   obtain⟨h1,h2,h3⟩:=kid_struct hl ht hu
   simp only[DataW.trod,hu] at h
   split at h
   ·rename_i hlen
    simp only[Option.map_eq_some_iff] at h
    obtain⟨xs,hm,hd⟩:=h
    cases hd
    obtain⟨as,k1,k2,k3⟩:=z7rc hB hl fs F.toList 0 fuel cs xs hm hf h1 (fun j f hj=>by rw[h3 j f hj,Nat.zero_add]) hs (by rw[Nat.zero_add,←h2,hlen];exact Nat.le_refl _)
    refine⟨as,k1,?_,Nat.le_trans k3 (hB.agg _)⟩
    rw[List.drop_zero,List.take_of_length_le (by omega)] at k2
    exact k2
   ·cases h
  ·cases hf
theorem z7rc (hB:z7fc B) (hl:laidOutB K.P=true) {sp:Nat→Bool}:∀(gs:List GT) (F:List Field) (off:Nat) (fuel:Nat) (cs:List Value) (xs:List (DataW H×List MemPlace)),
  F.mapM (fun f=>DataW.trod enc K.P W 0 sp true fuel f.type ((cs.drop f.offset).take (K.P.cellsOf f.type)))=some xs→GT.fitsL K.P gs (F.map (·.type))=true→(∀f∈F,f.type<K.P.types.size)→
  (∀(j:Nat) f,F[j]? =some f→f.offset=off+((F.take j).map fun f=>K.P.cellsOf f.type).sum)→(∀b,sp b=true)→off+(F.map fun f=>K.P.cellsOf f.type).sum≤cs.length→
  ∃as,GT.hasL gs as∧z6c K.toCon (z8na W) W as ((cs.drop off).take (F.map fun f=>K.P.cellsOf f.type).sum)∧wtL as≤((xs.map (·.1)).map B).sum
 |[],[],off,fuel,cs,xs,hm,hf,ht,ho,hs,hc=>by
  simp at hm
  subst hm
  exact⟨[],by simp[GT.hasL],by simp[z6c],by simp[wtL]⟩
 |[],_::_,off,fuel,cs,xs,hm,hf,ht,ho,hs,hc=>by simp[GT.fitsL] at hf
 |_::_,[],off,fuel,cs,xs,hm,hf,ht,ho,hs,hc=>by simp[GT.fitsL] at hf
 |g::gs,f::F,off,fuel,cs,xs,hm,hf,ht,ho,hs,hc=>by
  simp only[List.map_cons,GT.fitsL,Bool.and_eq_true] at hf
  simp only[List.mapM_cons,Option.bind_eq_bind,Option.bind_eq_some_iff,Option.pure_def,Option.some.injEq] at hm
  obtain⟨x,hx,xs',hm',rfl⟩:=hm
  have h0:=ho 0 f rfl
  simp only[List.take_zero,List.map_nil,List.sum_nil,Nat.add_zero] at h0
  simp only[List.map_cons,List.sum_cons] at hc
  obtain⟨as,k1,k2,k3⟩:=read hB hl g fuel f.type _ x.1 x.2 hx hf.1 (ht f (by simp)) hs
  obtain⟨bs,m1,m2,m3⟩:=z7rc hB hl gs F (off+K.P.cellsOf f.type) fuel cs xs' hm' hf.2 (fun f' hf'=>ht f' (by simp[hf'])) (fun j f' hj=>by
   have:=ho (j+1) f' (by simpa using hj)
   simp only[List.take_succ_cons,List.map_cons,List.sum_cons] at this
   omega) hs (by omega)
  refine⟨as++bs,⟨as,bs,rfl,k1,m1⟩,?_,?_⟩
  ·rw[h0] at k2
   rw[List.map_cons,List.sum_cons,List.take_add,List.drop_drop]
   exact z6c.app k2 m2
  ·rw[z1za]
   simp only[List.map_cons,List.sum_cons]
   omega
end
end
end Go.Abs
end

section
namespace Go.Abs
open Go.RowKit Go.WideShapes Go.ChangeShapes

def GT.row:GT→Bool
 | .arr _ _=>true
 | .st _=>true
 |_=>false
def GT.top (g:GT) (cs:List z2a):z2a:=if g.row then .agg cs else cs.headD .undef
def z0gc:List GT→List z2a→Prop
 |[],as=>as=[]
 |g::gs,as=>∃cs r,as=g.top cs::r∧g.has cs∧z0gc gs r

section
variable {H : Type} {enc : TypeId × Value → H} {K : Cx} {W : World} {B : DataW H → Nat}

theorem z8sb (hB:z7fc B) (hl:laidOutB K.P=true) {sp:Nat→Bool} {base:Nat} {g:GT} {t:TypeId} {v:Value} {d:DataW H} {p:List MemPlace} (hok:Value.okWide K.P W .any base t v)
  (h:DataW.Trod enc K.P W 0 sp true t v d p) (hf:g.fits K.P t=true) (ht:t<K.P.types.size) (hs:∀b,sp b=true):∃cs,g.has cs∧z7c K.toCon (z8na W) W (g.top cs) v∧wtL cs≤B d:=by
 obtain⟨fuel,h⟩:=h
 have row:g.row=true→(∃a,v= .agg a)→∃cs,g.has cs∧z7c K.toCon (z8na W) W (g.top cs) v∧wtL cs≤B d:=by
  rintro hr ⟨a,rfl⟩
  obtain⟨cs,k1,k2,k3⟩:=read hB hl g fuel t _ d p h hf ht hs
  refine⟨cs,k1,?_,k3⟩
  rw[GT.top,if_pos hr]
  simp only[z7c]
  exact⟨a,rfl,k2⟩
 have one:g.row=false→v.cells= #[v]→∃cs,g.has cs∧z7c K.toCon (z8na W) W (g.top cs) v∧wtL cs≤B d:=by
  intro hr hc
  rw[hc] at h
  obtain⟨cs,k1,k2,k3⟩:=read hB hl g fuel t _ d p h hf ht hs
  refine⟨cs,k1,?_,k3⟩
  rw[GT.top,if_neg (by simp[hr])]
  cases cs with
  |nil=>simp[z6c] at k2
  |cons c r=>
   simp only[z6c] at k2
   obtain⟨x,xs,e,k4,_⟩:=k2
   simp only[List.cons.injEq] at e
   rw[e.1]
   exact k4
 cases g with
 |bool=>
  simp only[GT.fits] at hf
  split at hf
  ·rename_i hu
   obtain⟨b,rfl⟩:=okWide_bool hu hok
   exact one rfl rfl
  ·cases hf
 |int k=>
  simp only[GT.fits] at hf
  split at hf
  ·rename_i k' hu
   obtain⟨b,rfl⟩:=okWide_int hu hok
   exact one rfl rfl
  ·cases hf
 |str=>
  simp only[GT.fits] at hf
  split at hf
  ·rename_i hu
   obtain⟨b,rfl⟩:=okWide_string hu hok
   exact one rfl rfl
  ·cases hf
 |sl e=>
  simp only[GT.fits] at hf
  split at hf
  ·rename_i t' hu
   obtain⟨a,n,c,rfl⟩:=okWide_slice hu hok
   exact one rfl rfl
  ·cases hf
 |arr n e=>
  simp only[GT.fits] at hf
  split at hf
  ·rename_i n' t' hu
   have hok':=hok
   simp only[Value.okWide,hu] at hok'
   obtain⟨cs,rfl,_,h3⟩:=hok'
   exact row rfl ⟨cs,rfl⟩
  ·cases hf
 |st fs=>
  simp only[GT.fits] at hf
  split at hf
  ·rename_i F hu
   have hok':=hok
   simp only[Value.okWide,hu] at hok'
   obtain⟨cs,rfl,_,h3⟩:=hok'
   exact row rfl ⟨cs,rfl⟩
  ·cases hf

theorem z5La (hB:z7fc B) (hl:laidOutB K.P=true) {sp:Nat→Bool} {base:Nat}:∀(gs:List GT) (ts:List TypeId) (vs:List Value) (ds:List (DataW H)) (p:List MemPlace),
  DataW.TrodAll enc K.P W 0 sp true ts vs ds p→(∀(j:Nat) t v,ts[j]? =some t→vs[j]? =some v→Value.okWide K.P W .any base t v)→GT.fitsL K.P gs ts=true→(∀t∈ts,t<K.P.types.size)→(∀b,sp b=true)→
  ∃as,z0gc gs as∧z6c K.toCon (z8na W) W as vs∧wtL as≤(ds.map B).sum
 |[],[],vs,ds,p,h,_,_,_,_=>by
  obtain⟨rfl,rfl,rfl⟩:=trodAll_nil h
  exact⟨[],by simp[z0gc],by simp[z6c],by simp[wtL]⟩
 |[],_::_,_,_,_,_,_,hf,_,_=>by simp[GT.fitsL] at hf
 |_::_,[],_,_,_,_,_,hf,_,_=>by simp[GT.fitsL] at hf
 |g::gs,t::ts,vs,ds,p,h,hok,hf,ht,hs=>by
  obtain⟨v,vs',d,ds',p',q,rfl,rfl,rfl,h0,hr⟩:=trodAll_cons h
  simp only[GT.fitsL,Bool.and_eq_true] at hf
  obtain⟨cs,k1,k2,k3⟩:=z8sb hB hl (hok 0 t v rfl rfl) h0 hf.1 (ht t (by simp)) hs
  obtain⟨as,m1,m2,m3⟩:=z5La hB hl gs ts vs' ds' q hr (fun j t v h1 h2=>hok (j+1) t v (by simpa using h1) (by simpa using h2)) hf.2 (fun t h=>ht t (by simp[h])) hs
  refine⟨g.top cs::as,⟨cs,as,rfl,k1,m1⟩,?_,?_⟩
  ·simp only[z6c]
   exact⟨v,vs',rfl,k2,m2⟩
  ·have:wt (g.top cs)≤wtL cs:=by
    unfold GT.top
    split
    ·simp[wt]
    ·cases cs with
     |nil=>
      have:z7c K.toCon (z8na W) W (g.top []) v:=k2
      cases g<;>simp_all [GT.has,GT.row]
     |cons c r=>simp[wtL]
   simp only[wtL,List.map_cons,List.sum_cons]
   omega
end

theorem z0Da {H:Type} {enc:TypeId×Value→H} {P:Program} {f:Func} {s:ChangeSpec} {apart fresh handsOn again:Bool} {W W':World} {args:Array Value} {v:Value} {ds gs:List (DataW H)} {before pa pv:List MemPlace}
  (hW:DataW.Whole enc P f.params.toList s.vars apart W args.toList ds gs before)
  (hres:∀(b:Nat) (sp:Nat→Bool) (hd:Bool),DataW.TrodAll enc P W' b sp hd f.resultTypes.toList (v.resultList f.resultTypes.size) (s.fn H (ds++gs)).results [])
  (hargs:∀sp:Nat→Bool,(∀p∈before,sp p.block=true)→DataW.TrodAll enc P W' 0 sp true f.params.toList args.toList (s.fn H (ds++gs)).args pa)
  (hvars:∀sp:Nat→Bool,(∀p∈before,sp p.block=true)→DataW.TrodVars enc P W' sp s.vars (s.fn H (ds++gs)).vars pv)
  (hps:before=pa++pv) (hb:Below W.heap.size W W')
  (hok:∀(j:Nat) (t:TypeId) (r:Value),f.resultTypes[j]? =some t→(v.resultList f.resultTypes.size)[j]? =some r→Value.okWide P W' .any 0 t r):
  s.post enc P f apart fresh handsOn again W args v W':=by
 have hlt:∀p∈before,p.block<W.heap.size:=fun p hp=>hW.lt p hp
 have hold:∀p∈before,(fun b=>decide (b<W.heap.size)) p.block=true:=fun p hp=>by simpa using hlt p hp
 refine⟨ds,gs,before,[],pa,pv,hW,hres _ _ _,hargs _ hold,hvars _ hold,World.keptBut_mono (fun p hp=>⟨hp,?_⟩) (hb.frame (· ∈before)),fun _=> ?_⟩
 ·rw[hps,List.mem_append] at hp
  exact Or.inr hp
 ·obtain⟨_,_,_,_,_,hz,hn⟩:=hW
  refine⟨hok,_,_,([]++pa)++pv,⟨[]++pa,pv,trodAll_append (hargs _ (fun _ _=>rfl)) (hres _ _ _),hvars _ (fun _ _=>rfl),rfl,?_,?_⟩,?_⟩
  ·intro b off hp
   have hin:MemPlace.cell b off∈before:=by rw[hps];simpa using hp
   rw[hb.frozen (hlt _ hin)]
   exact hz b off hin
  ·intro ha
   have:=hn ha
   rw[hps] at this
   simpa using this
  ·intro p hp _
   rw[hps]
   simpa using hp

section
variable {H : Type} {enc : TypeId × Value → H} {K : Cx} {B : DataW H → Nat}

theorem z8Ka (hl:laidOutB K.P=true) {W W':World} (hb:Below W.heap.size W W') {sp:Nat→Bool}:∀(ts:List TypeId) (vs:List Value) (ds:List (DataW H)) (p:List MemPlace),
  (∀t∈ts,K.P.readableRec t=true∧t<K.P.types.size)→DataW.TrodAll enc K.P W 0 (fun _=>true) true ts vs ds p→(∀x∈p,x.block<W.heap.size∧sp x.block=true)→DataW.TrodAll enc K.P W' 0 sp true ts vs ds p
 |[],vs,ds,p,_,h,_=>by
  obtain⟨rfl,rfl,rfl⟩:=trodAll_nil h
  exact trodAll_mk0
 |t::ts,vs,ds,p,ht,h,hp=>by
  obtain⟨v,vs',d,ds',p',q,rfl,rfl,rfl,h0,hr⟩:=trodAll_cons h
  obtain⟨h1,h2⟩:=ht t (by simp)
  refine trodAll_cons_mk (WideElems.Trod_stays hl h1 h2 h0 (fun x hx=>hb.same (hp x (by simp[hx])).1) (fun x hx=>(hp x (by simp[hx])).2)) (z8Ka hl hb ts vs' ds' q (fun t h=>ht t (by simp[h])) hr (fun x hx=>hp x (by simp[hx])))

theorem z6Ab {f:Nat} {fn:Func} {s:ChangeSpec} {c:z5a} {gts:List GT} {tb:TypeId} {W:World} {base:Nat} {args:Array Value} {ds gs:List (DataW H)} {before:List MemPlace}
  (hv:z7h K f c) (hl:laidOutB K.P=true) (hB:z7fc B)
  (hts:(fn.params.toList.all fun t=>K.P.readableRec t&&decide (t<K.P.types.size))=true) (hfit:GT.fitsL K.P gts fn.params.toList=true) (hres:fn.resultTypes= #[tb]) (htb:K.P.underlying tb=some .bool)
  (hvars:s.vars=[]) (hspec:∀ds:List (DataW H),ds.length=fn.params.size→s.fn H ds={results:=[.lit (.bool true)],args:=ds})
  (hgl:∀n∈K.N.gs,z0f K.toCon (z8na W) W (K.E.T n) (K.N.gnum n) 0)
  (hpre:∀as,z0gc gts as→wtL as≤(ds.map B).sum→c.pre as) (hpost:∀as,c.pre as→c.post as= .lit (.bool true))
  (hval:∀(j:Nat) t v,fn.params[j]? =some t→args[j]? =some v→Value.okWide K.P W .any base t v)
  (hW:DataW.Whole enc K.P fn.params.toList s.vars false W args.toList ds gs before):
  Calls K.P (K.nu f) args W fun e W'=>∃v,e= .returned v∧s.post enc K.P fn false true false false W args v W':=by
 have hW':=hW
 obtain⟨p,q,hA,hV,rfl,hfz,hnd⟩:=hW
 rw[hvars] at hV
 have hgq:gs=[]∧q=[]:=by
  cases gs with
  |nil=>simp only[DataW.TrodVars] at hV;exact⟨rfl,hV⟩
  |cons _ _=>simp only[DataW.TrodVars] at hV
 obtain⟨rfl,rfl⟩:=hgq
 have hts':∀t∈fn.params.toList,K.P.readableRec t=true∧t<K.P.types.size:=fun t ht=>by
  have:=List.all_eq_true.1 hts t ht
  simpa[Bool.and_eq_true] using this
 obtain⟨as,k1,k2,k3⟩:=z5La hB hl (base:=base) gts fn.params.toList args.toList ds p hA (fun j t v h1 h2=>hval j t v (by simpa using h1) (by simpa using h2)) hfit (fun t ht=>(hts' t ht).2) (fun _=>rfl)
 have hp:=hpre as k1 k3
 have hc:=hv.2 (z8na W) W as args.toList hgl k2 hp
 rw[Array.toArray_toList] at hc
 refine hc.mono fun e W' ⟨v,g',he,hfr,hrep,_,_⟩=>⟨v,he,?_⟩
 rw[hpost as hp] at hrep
 simp only[Rep] at hrep
 subst hrep
 have hb:Below W.heap.size W W':=⟨hfr.os,hfr.tape,hfr.output,hfr.size,fun k hk=>hfr.block k hk (fun h=>h)⟩
 have hdl:∀(ts:List TypeId) (vs:List Value) (ds:List (DataW H)) (p:List MemPlace),DataW.TrodAll enc K.P W 0 (fun _=>true) true ts vs ds p→ds.length=ts.length:=by
  intro ts
  induction ts with
  |nil=>
   intro vs ds p h
   obtain⟨_,rfl,_⟩:=trodAll_nil h
   rfl
  |cons t ts ih=>
   intro vs ds p h
   obtain⟨v,vs',d,ds',p',q,rfl,rfl,rfl,h0,hr⟩:=trodAll_cons h
   simp[ih _ _ _ hr]
 have hlen:(ds++[]).length=fn.params.size:=by
  rw[List.append_nil,hdl _ _ _ _ hA]
  simp
 have hsp:=hspec (ds++[]) hlen
 refine z0Da hW' (pa:=p) (pv:=[]) (fun b sp hd=> ?_) (fun sp hs=> ?_) (fun sp hs=> ?_) rfl hb ?_
 ·rw[hsp,hres]
  exact trodAll_mk1 (shut_bool htb true)
 ·rw[hsp,List.append_nil]
  exact z8Ka hl hb _ _ _ _ hts' hA (fun x hx=>⟨hW'.lt x (by simpa using hx),hs x (by simpa using hx)⟩)
 ·rw[hsp,hvars]
  simp[DataW.TrodVars]
 ·rw[hres]
  intro j t r h1 h2
  have:=ok_one (f:=fn) (v:= .bool true) hres rfl (okWide_bool_mk (P:=K.P) (W':=W') htb true)
  exact this j t r (by rw[hres];exact h1) (by rw[hres];exact h2)
end
end Go.Abs
end

section
namespace Go.Abs
def z0fa (n:Nat):List UInt8:=if h:n=0 then [] else UInt8.ofNat n::z0fa (n/256)
termination_by n
decreasing_by omega
theorem z0B:z0fa 0=[]:=by rw[z0fa];simp
theorem z5Q {n:Nat} (h:n≠0):z0fa n=UInt8.ofNat n::z0fa (n/256):=by rw[z0fa];simp[h]
def mag (n:Int):Nat:=(if n<0 then-1-n else n).toNat
def flp (n:Int) (c:UInt8):UInt8:=if n<0 then 255-c else c
def z1t (n:Int):List UInt8:=
 flp n (UInt8.ofNat (128+(z0fa (mag n)).length))::(z0fa (mag n)).reverse.map (flp n)
theorem z4ma:∀(i n:Nat) (h:i<(z0fa n).length),(z0fa n)[i]=UInt8.ofNat (n/256^i)
 |0,n,h=>by
  by_cases hn:n=0
  ·subst hn;simp[z0B] at h
  ·simp[z5Q hn]
 |i+1,n,h=>by
  by_cases hn:n=0
  ·subst hn;simp[z0B] at h
  ·simp only[z5Q hn,List.length_cons,Nat.add_lt_add_iff_right] at h⊢
   rw[List.getElem_cons_succ,z4ma i (n/256) h,Nat.div_div_eq_div_mul,Nat.pow_succ,Nat.mul_comm]
theorem z3aa:∀(k n:Nat),(z0fa n).length≤k↔n<256^k
 |0,n=>by
  by_cases hn:n=0
  ·subst hn;simp[z0B]
  ·simp[z5Q hn];omega
 |k+1,n=>by
  by_cases hn:n=0
  ·subst hn;simp[z0B,Nat.pow_pos]
  ·rw[z5Q hn,List.length_cons,Nat.add_le_add_iff_right,z3aa k,Nat.div_lt_iff_lt_mul (by decide),Nat.pow_succ]
end Go.Abs
namespace Go.Abs
theorem z0ta {x:UInt64} {N m:Nat} (hx:x.toNat=N):(0<z2xa x m)↔2^m≤N:=by
 rw[UInt64.lt_iff_toNat_lt]
 show 0<(x.toBitVec>>>m).toNat↔_
 rw[BitVec.toNat_ushiftRight,Nat.shiftRight_eq_div_pow]
 show 0<x.toNat/2^m↔_
 rw[hx,Nat.div_pos_iff]
 have:=Nat.two_pow_pos m
 omega
theorem z8Ua (k:Nat):2^(8*k)=256^k:=by rw[Nat.pow_mul]
theorem z49a {x:UInt64} {N m:Nat} (hx:x.toNat=N):(z2xa x m).toUInt8=UInt8.ofNat (N/2^m):=by
 apply UInt8.toNat_inj.1
 rw[UInt64.toNat_toUInt8,UInt8.toNat_ofNat']
 show(x.toBitVec>>>m).toNat% 256=_
 rw[BitVec.toNat_ushiftRight,Nat.shiftRight_eq_div_pow]
 show x.toNat/2^m% 256=_
 rw[hx]
end Go.Abs
end

section
namespace Go.Abs

def z1U (x:UInt32) (n:Nat):UInt32:=z6Ga x n|||z2ca x (32-n)
def z1Ta (x:UInt32) (k:Int):UInt32:=z2ca x (UInt64.ofInt k&&&31).toNat|||z6Ga x (32-(UInt64.ofInt k&&&31)).toNat
theorem z2zc (x:UInt32):z1Ta x (-7)=z1U x 7:=UInt32.or_comm _ _
theorem z4Sb (x:UInt32):z1Ta x (-18)=z1U x 18:=UInt32.or_comm _ _
theorem z6Wb (x:UInt32):z1Ta x (-17)=z1U x 17:=UInt32.or_comm _ _
theorem z61b (x:UInt32):z1Ta x (-19)=z1U x 19:=UInt32.or_comm _ _
theorem z0vc (x:UInt32):z1Ta x (-6)=z1U x 6:=UInt32.or_comm _ _
theorem z9Sb (x:UInt32):z1Ta x (-11)=z1U x 11:=UInt32.or_comm _ _
theorem z24b (x:UInt32):z1Ta x (-25)=z1U x 25:=UInt32.or_comm _ _
theorem z7tc (x:UInt32):z1Ta x (-2)=z1U x 2:=UInt32.or_comm _ _
theorem z11b (x:UInt32):z1Ta x (-13)=z1U x 13:=UInt32.or_comm _ _
theorem z46b (x:UInt32):z1Ta x (-22)=z1U x 22:=UInt32.or_comm _ _

structure H8 where
 a:UInt32
 b:UInt32
 c:UInt32
 d:UInt32
 e:UInt32
 f:UInt32
 g:UInt32
 h:UInt32
def H8.l (s:H8):List UInt32:=[s.a,s.b,s.c,s.d,s.e,s.f,s.g,s.h]
def H8.of (l:List UInt32):H8:=⟨z6p l 0,z6p l 1,z6p l 2,z6p l 3,z6p l 4,z6p l 5,z6p l 6,z6p l 7⟩
@[simp] theorem H8.of_l (s:H8):H8.of s.l=s:=rfl
@[simp] theorem H8.len (s:H8):s.l.length=8:=rfl
def iv:H8:=⟨1779033703,3144134277,1013904242,2773480762,1359893119,2600822924,528734635,1541459225⟩
def kc:List UInt32:=[1116352408,1899447441,3049323471,3921009573,961987163,1508970993,2453635748,2870763221,3624381080,310598401,607225278,1426881987,1925078388,2162078206,2614888103,3248222580,3835390401,4022224774,264347078,604807628,770255983,1249150122,1555081692,1996064986,2554220882,2821834349,2952996808,3210313671,3336571891,3584528711,113926993,338241895,666307205,773529912,1294757372,1396182291,1695183700,1986661051,2177026350,2456956037,2730485921,2820302411,3259730800,3345764771,3516065817,3600352804,4094571909,275423344,430227734,506948616,659060556,883997877,958139571,1322822218,1537002063,1747873779,1955562222,2024104815,2227730452,2361852424,2428436474,2756734187,3204031479,3329325298]

def z4rb:z5a:=⟨fun ds=>∃x k,ds=[u32 x,i64 k],fun ds=>u32 (z1Ta (z8Ob (nth ds 0)) (asI (nth ds 1)))⟩
def z8Kb:z5a:=⟨fun ds=>∃x i j k,ds=[u32 x,i64 i,i64 j,i64 k],fun ds=>u32 (z1Ta (z8Ob (nth ds 0)) (W (-asI (nth ds 1)))^^^z1Ta (z8Ob (nth ds 0)) (W (-asI (nth ds 2)))^^^z1Ta (z8Ob (nth ds 0)) (W (-asI (nth ds 3))))⟩

def ldw (b:List UInt8) (t:Nat):Nat→UInt32
 |0=>0
 |j+1=>z2ca (ldw b t j) 8|||(at8 b (4*t+j)).toUInt32
def sg0 (p:UInt32):UInt32:=z1U p 7^^^z1U p 18^^^z6Ga p 3
def sg1 (q:UInt32):UInt32:=z1U q 17^^^z1U q 19^^^z6Ga q 10
def z0xa (b:List UInt8) (t:Nat) (w:List UInt32):UInt32:=
 if t<16 then ldw b t 4 else z6p w (t-16)+sg0 (z6p w (t-15))+z6p w (t-7)+sg1 (z6p w (t-2))
def z3k (b:List UInt8):Nat→List UInt32
 |0=>[]
 |t+1=>z3k b t++[z0xa b t (z3k b t)]
theorem z8p (b:List UInt8):∀t,(z3k b t).length=t
 |0=>rfl
 |t+1=>by simp[z3k,z8p b t]
def z0S:z5a:=⟨fun ds=>∃nl b,b.length=64∧ds=[.sl .plain nl 64 (bys b)],fun ds=> .agg (z2p (z3k (gBs (gCs (nth ds 0))) 64))⟩

def rnd (k w:UInt32) (s:H8):H8:=
 let x:=s.h+(z1U s.e 6^^^z1U s.e 11^^^z1U s.e 25)+((s.e&&&s.f)^^^(~~~s.e&&&s.g))+k+w
 let y:=(z1U s.a 2^^^z1U s.a 13^^^z1U s.a 22)+((s.a&&&s.b)^^^(s.a&&&s.c)^^^(s.b&&&s.c))
 ⟨x+y,s.a,s.b,s.c,s.d+x,s.e,s.f,s.g⟩
def z6wa (w:List UInt32) (s:H8):Nat→H8
 |0=>s
 |t+1=>rnd (z6p kc t) (z6p w t) (z6wa w s t)
def H8.add (s v:H8):H8:=⟨s.a+v.a,s.b+v.b,s.c+v.c,s.d+v.d,s.e+v.e,s.f+v.f,s.g+v.g,s.h+v.h⟩
def z3Pa (s:H8) (b:List UInt8):H8:=s.add (z6wa (z3k b 64) s 64)
def z3ma:z5a:=⟨fun ds=>∃(s:H8) (nl:Option Bool) (b:List UInt8),b.length=64∧ds=[.agg (z2p s.l),.sl .plain nl 64 (bys b)],fun ds=> .agg (z2p (z3Pa (H8.of (gWs (gCs (nth ds 0)))) (gBs (gCs (nth ds 1)))).l)⟩

theorem z3ba {t:Nat} (h:t<64):z2j (64-t)=0::z2j (63-t):=by
 rw[show 64-t=(63-t)+1 by omega];rfl
theorem z3sa {α:Type} {a c:List α} {i:Nat} {x y:α} (h:i=a.length):(a++x::c).set i y=a++y::c:=by
 subst h;simp
end Go.Abs
namespace Go.Abs
structure z2z where
 h:H8
 b:List UInt8
 n:UInt64
def scs (s:z2z):List z2a:=z2p s.h.l++(bys s.b++[u64 s.n])
def z2z.v (s:z2z):z2a:= .agg (scs s)
def z2z.of (l:List z2a):z2z:=⟨H8.of (gWs (l.take 8)),gBs ((l.drop 8).take 64),z48c (nth l 72)⟩
section cells
variable {s : z2z}
theorem z8J (h:s.b.length=64):(scs s).length=73:=by simp[scs,h]
theorem z1vb (h:s.b.length=64):hdA ((scs s).drop 72)=u64 s.n:=by
 rw[z6Db]
 simp[scs,List.getD,List.getElem?_append,h]
theorem z00b (s:z2z):(scs s).take 8=z2p s.h.l:=by simp[scs]
theorem z9Tb (h:s.b.length=64):((scs s).drop 8).take 64=bys s.b:=by
 rw[scs,List.drop_left' (by simp),List.take_left' (by simp[h])]
theorem z1eb (h:s.b.length=64):(scs s).take 73=scs s:=List.take_of_length_le (by rw[z8J h];decide)
@[simp] theorem z9sb (s:z2z):(∀c∈scs s,z2d c)↔True:=by simp[scs,or_imp,forall_and]
@[simp] theorem z86b (s:z2z):(∀c∈scs s,z1f c=false)↔True:=by simp[scs,or_imp,forall_and]
@[simp] theorem z7Ma (s:z2z):z2h (scs s)=true:=by simp[scs]
@[simp] theorem z0tb (s:z2z):(∀c∈scs s,z6f c=true)↔True:=iff_true_intro ((z5m _).1 (z7Ma s))
@[simp] theorem z2Ub (s:z2z):z0c (scs s)=true:=by simp[scs]
@[simp] theorem z3Ib (s:z2z):z7g (scs s)=[]:=by simp[scs]
theorem z6Ma {x:H8}:splice (scs s) 0 (z2p x.l)=scs {s with h:=x}:=by
 rw[scs,z04 (by simp),z8f (by simp)];rfl
theorem z6ib {n:UInt64} (h:s.b.length=64):splice (scs s) 72 [u64 n]=scs {s with n:=n}:=by
 rw[scs,z9N (by simp),z9N (by simp[h])]
 simp[h,scs]
theorem z5pb {i:Nat} {xs:List UInt8} (h:s.b.length=64) (hi:i+xs.length≤64):splice (scs s) (8+i) (bys xs)=scs {s with b:=s.b.take i++xs++s.b.drop (i+xs.length)}:=by
 rw[scs,z9N (by simp),z04 (by simp[h];omega)]
 simp only[H8.len,z0Ta,Nat.add_sub_cancel_left,scs]
 rw[splice,z78a,z6J,z6J,z6Gb,z42a]
theorem z4Ea {l:List z2a} (h:s.b.length=64) (hl:l.length=73):splice l 0 (scs s)=scs s:=z8f (by rw[hl,z8J h])
end cells
theorem z1Za:(z2p (z2j 8)++(bys (z4c 64)++[u64 0])).length=73:=by simp
def z6gc (s:z2z) (x:UInt8):z2z:=
 let b':=s.b.set (s.n.toNat% 64) x
 ⟨if s.n.toNat% 64=63 then z3Pa s.h b' else s.h,b',s.n+1⟩
def z2z.add (s:z2z) (m:List UInt8):z2z:=m.foldl z6gc s
theorem z0Ab (s:z2z) (x:UInt8):(z6gc s x).b.length=s.b.length:=by simp[z6gc]
theorem z3wa (m:List UInt8):∀s:z2z,(s.add m).b.length=s.b.length:=by
 induction m with
 |nil=>intro s;rfl
 |cons x m ih=>intro s;rw[z2z.add,List.foldl_cons];exact(ih _).trans (z0Ab s x)
theorem z43 (s:z2z) (m k:List UInt8):s.add (m++k)=(s.add m).add k:=by simp[z2z.add]
theorem z2z.of_scs (s:z2z) (hb:s.b.length=64):z2z.of (scs s)=s:=by
 have h3:nth (scs s) 72=u64 s.n:=by
  rw[nth,←z6Db,z1vb hb]
 rw[z2z.of,z00b,z9Tb hb,h3]
 simp
def z2z.init:z2z:=⟨iv,z4c 64,0⟩
def z6ga:z5a:=⟨fun ds=>ds=[],fun _=>z2z.init.v⟩
def z1bb:z5a:=⟨fun ds=>∃(s:z2z) (m:List UInt8),s.b.length=64∧ds=[s.v,st m],fun ds=>((z2z.of (gCs (nth ds 0))).add (gS (nth ds 1))).v⟩

theorem z3ta (s:z2z) (hb:s.b.length=64):∀(j:Nat) (m:List UInt8),m.length=j→s.n.toNat% 64+j≤64→
  s.add m=⟨if s.n.toNat% 64+j=64 then z3Pa s.h (s.b.take (s.n.toNat% 64)++(m++s.b.drop (s.n.toNat% 64+j))) else s.h,
   s.b.take (s.n.toNat% 64)++(m++s.b.drop (s.n.toNat% 64+j)),s.n+UInt64.ofNat j⟩
 |0,m,hm,h=>by
  have hm':=List.length_eq_zero_iff.1 hm
  subst hm'
  have h1:s.n.toNat% 64<64:=Nat.mod_lt _ (by decide)
  rw[if_neg (by omega)]
  simp[z2z.add]
 |j+1,m,hm,h=>by
  have hne:m≠[]:=fun e=>by rw[e] at hm;simp at hm
  obtain⟨k,x,rfl⟩:∃k x,m=k++[x]:=⟨m.dropLast,m.getLast hne,(List.dropLast_concat_getLast hne).symm⟩
  have hk:k.length=j:=by simp at hm;exact hm
  rw[z43,z3ta s hb j k hk (by omega),if_neg (by omega)]
  have hn:(s.n+UInt64.ofNat j).toNat% 64=s.n.toNat% 64+j:=by
   rw[UInt64.toNat_add,UInt64.toNat_ofNat']
   omega
  have hset:(s.b.take (s.n.toNat% 64)++(k++s.b.drop (s.n.toNat% 64+j))).set (s.n.toNat% 64+j) x=s.b.take (s.n.toNat% 64)++((k++[x])++s.b.drop (s.n.toNat% 64+(j+1))):=by
   rw[List.drop_eq_getElem_cons (show s.n.toNat% 64+j<s.b.length by omega),←List.append_assoc,z3sa (by simp[hk];omega)]
   simp[Nat.add_assoc]
  simp only[z2z.add,List.foldl_cons,List.foldl_nil,z6gc,hn,hset]
  congr 1
  ·by_cases h63:s.n.toNat% 64+j=63
   ·rw[if_pos h63,if_pos (by omega)]
   ·rw[if_neg h63,if_neg (by omega)]
  ·rw[UInt64.add_assoc]
   congr 1
   apply UInt64.toNat_inj.1
   simp
end Go.Abs
end

section
namespace Go.Abs
def z1xa (n:Nat):Nat:=(119-n% 64)% 64
def be8 (n:UInt64):Nat→List UInt8
 |0=>[]
 |i+1=>be8 n i++[(z2xa n (56-8*i)).toUInt8]
theorem z3la (n:UInt64):∀i,(be8 n i).length=i
 |0=>rfl
 |i+1=>by simp[be8,z3la n i]
def z8Sa (n:UInt64):List UInt8:=(128::z4c (z1xa n.toNat))++be8 (8*n) 8
def z48a (h:H8):Nat→List UInt8
 |0=>[]
 |i+1=>z48a h i++[(z6Ga (z6p h.l (i/4)) (24-8*(i% 4))).toUInt8]
theorem z8oa (h:H8):∀i,(z48a h i).length=i
 |0=>rfl
 |i+1=>by simp[z48a,z8oa h i]
def z2z.sum (s:z2z):List UInt8:=z48a (s.add (z8Sa s.n)).h 32
def z4Bb:z5a:=⟨fun ds=>∃s:z2z,s.b.length=64∧s.n.toNat<1099511627776∧ds=[s.v],fun ds=> .agg (bys (z2z.of (gCs (nth ds 0))).sum)⟩
theorem z8Fc {s:z2z} {j:Nat} (h:j<8):hdA ((scs s).drop j)=u32 (z6p s.h.l j):=by
 rw[scs,List.drop_append_of_le_length (by simp;omega),z7ua,hdA]
 rw[show(z2p (s.h.l.drop j)++(bys s.b++[u64 s.n])).headD .undef=hdA (z2p (s.h.l.drop j)) by
  rw[List.drop_eq_getElem_cons (show j<s.h.l.length from h)];rfl]
 exact z8S h
theorem z2Wa (n:Nat):z1xa n<64:=Nat.mod_lt _ (by decide)
theorem z7Ua (n:Nat):(n+(z1xa n+1))% 64=56:=by unfold z1xa;omega
theorem z9sa (k:Nat):z4c k++[0]=z4c (k+1):=by
 simp[z4c,List.replicate_succ']
theorem z8Fa {t n:Nat} (h:t<n):z4c (n-t)=0::z4c (n-1-t):=by
 rw[show n-t=(n-1-t)+1 by omega];rfl
end Go.Abs
namespace Go.Abs
theorem z5yc (m:List UInt8):∀s:z2z,(s.add m).n=s.n+UInt64.ofNat m.length:=by
 induction m with
 |nil=>intro s;simp[z2z.add]
 |cons x m ih=>
  intro s
  have:s.add (x::m)=(z6gc s x).add m:=rfl
  rw[this,ih]
  simp only[z6gc,List.length_cons]
  rw[UInt64.add_assoc]
  congr 1
  apply UInt64.toNat_inj.1
  simp
  omega
theorem z9Na (m:List UInt8) (s:z2z) (h:s.n.toNat+m.length<18446744073709551616):(s.add m).n.toNat=s.n.toNat+m.length:=by
 rw[z5yc,UInt64.toNat_add,UInt64.toNat_ofNat']
 omega
def sha (l:List UInt8):List UInt8:=(z2z.init.add l).sum
theorem z5Da (l:List UInt8):(sha l).length=32:=z8oa _ 32
theorem z7Fb:z2z.init.b.length=64:=by simp[z2z.init]
def z4wc:z5a:=⟨fun ds=>∃(nl:Option Bool) (l:List UInt8),l.length<1099511627776∧ds=[.sl .plain nl l.length (bys l)],fun ds=> .agg (bys (sha (gBs (gCs (nth ds 0)))))⟩
end Go.Abs
end

section
namespace Go.Abs
set_option maxRecDepth 100000
def z6s:z2t:=
 {n:=0,wr:=[],res:=[.cell 0 (some 73) 0],body:=
 .seq (
 .region [0] [.norm [0]] [
 ⟨some 0,none,.alloc 0 (z2p (z2j 8)++bys (z4c 64)++[u64 0])⟩]) (
 .seq (
 .region [0] [.norm [0]] [
 ⟨some 1,none,.build [u32 0,u32 0,u32 0,u32 0,u32 0,u32 0,u32 0,u32 0] [(0,1,(.c (u32 1779033703))),(1,1,(.c (u32 3144134277))),(2,1,(.c (u32 1013904242))),(3,1,(.c (u32 2773480762))),(4,1,(.c (u32 1359893119))),(5,1,(.c (u32 2600822924))),(6,1,(.c (u32 528734635))),(7,1,(.c (u32 1541459225)))]⟩,
 ⟨some 2,none,.build (z2p (z2j 8)++bys (z4c 64)++[u64 0]) [(0,8,(.s 1))]⟩,
 ⟨none,none,.store (some 73) 0 false (.s 0) (.s 2)⟩]) (
 .ret))}

def z8j:z2t:=
 {n:=2,wr:=[1],res:=[.cell 4 (some 73) 4],body:=
 .seq (
 .region [1,2,4] [.norm [2,4]] [
 ⟨some 2,none,.box 2 (some 73) false (.s 0)⟩,
 ⟨some 4,none,.alloc 4 (z2p (z2j 8)++bys (z4c 64)++[u64 0])⟩]) (
 .seq (
 .block 0 (
 .loop (
 .seq (
 .seq (
 .region [1,2,4,8] [] [
 ⟨some 7,none,.mv false (.s 1)⟩,
 ⟨some 8,none,.bin .neq (.s 7) (.c (st []))⟩]) (
 .cond (.s 8) (
 .ghost (.keep [1,2,4]) .skip) (
 .ghost (.keep [2,4]) (.exit 0)))) (
 .block 1 (
 .seq (
 .region [1,2,4,5] [.norm [2,4]] [
 ⟨some 9,none,.fieldAddr 72 (.s 2)⟩,
 ⟨some 10,none,.load none (some 2) false (.s 9)⟩,
 ⟨some 11,none,.bin .rem (.s 10) (.c (u64 64))⟩,
 ⟨some 12,none,.toInt .i64 (.s 11)⟩,
 ⟨some 5,none,.mv false (.s 12)⟩]) (
 .seq (
 .region [1,2,4,5,6] [.norm [2,4]] [
 ⟨some 13,none,.fieldAddr 8 (.s 2)⟩,
 ⟨some 14,none,.mv false (.s 5)⟩,
 ⟨some 15,none,.slArr 64 1 (.s 13) (some (.s 14)) none none⟩,
 ⟨some 16,none,.mv false (.s 1)⟩,
 ⟨some 17,none,.copy 1 true 2 none (.s 15) (.s 16)⟩,
 ⟨some 6,none,.mv false (.s 17)⟩]) (
 .seq (
 .region [1,2,4,5,6] [] [
 ⟨some 18,none,.mv false (.s 1)⟩,
 ⟨some 19,none,.mv false (.s 6)⟩,
 ⟨some 20,none,.slStr (.s 18) (some (.s 19)) none⟩,
 ⟨some 1,none,.mv false (.s 20)⟩]) (
 .seq (
 .region [1,2,4,5,6] [.norm [2,4]] [
 ⟨some 21,none,.fieldAddr 72 (.s 2)⟩,
 ⟨some 22,none,.load none (some 2) false (.s 21)⟩,
 ⟨some 23,none,.mv false (.s 6)⟩,
 ⟨some 24,none,.toInt .u64 (.s 23)⟩,
 ⟨some 25,none,.bin .add (.s 22) (.s 24)⟩,
 ⟨some 26,none,.fieldAddr 72 (.s 2)⟩,
 ⟨none,none,.store none 2 false (.s 26) (.s 25)⟩]) (
 .seq (
 .region [1,2,4,30] [] [
 ⟨some 27,none,.mv false (.s 5)⟩,
 ⟨some 28,none,.mv false (.s 6)⟩,
 ⟨some 29,none,.bin .add (.s 27) (.s 28)⟩,
 ⟨some 30,none,.bin .eql (.s 29) (.c (i64 64))⟩]) (
 .cond (.s 30) (
 .region [1,2,4] [.norm [2,4]] [
 ⟨some 31,none,.fieldAddr 0 (.s 2)⟩,
 ⟨some 32,none,.load (some 8) (some 2) false (.s 31)⟩,
 ⟨some 33,none,.fieldAddr 8 (.s 2)⟩,
 ⟨some 34,none,.slArr 64 1 (.s 33) none none none⟩,
 ⟨some 35,none,.call 4 [(.s 32),(.s 34)] [2]⟩,
 ⟨some 36,none,.fieldAddr 0 (.s 2)⟩,
 ⟨none,none,.store (some 8) 2 false (.s 36) (.s 35)⟩]) (
 .ghost (.keep [1,2,4]) .skip))))))))))) (
 .seq (
 .region [4] [.norm [2,4]] [
 ⟨some 37,none,.load (some 73) (some 2) false (.s 2)⟩,
 ⟨none,none,.store (some 73) 4 false (.s 4) (.s 37)⟩]) (
 .ret)))}

def z0k:z2t:=
 {n:=1,wr:=[],res:=[.cell 2 (some 32) 2],body:=
 .seq (
 .region [1,2] [.norm [1,2]] [
 ⟨some 1,none,.box 1 (some 73) false (.s 0)⟩,
 ⟨some 2,none,.alloc 2 (bys (z4c 32))⟩]) (
 .seq (
 .region [1,2,3] [.norm [1,2]] [
 ⟨some 8,none,.fieldAddr 72 (.s 1)⟩,
 ⟨some 9,none,.load none (some 1) false (.s 8)⟩,
 ⟨some 10,none,.bin .mul (.c (u64 8)) (.s 9)⟩,
 ⟨some 3,none,.mv false (.s 10)⟩]) (
 .seq (
 .region [1,2,3,4] [] [
 ⟨some 11,none,.buildSl 1 1 [u8 0] [(0,1,(.c (u8 128)))]⟩,
 ⟨some 4,none,.mv true (.s 11)⟩]) (
 .seq (
 .block 0 (
 .loop (
 .seq (
 .seq (
 .region [1,2,3,4,19] [.norm [1,2]] [
 ⟨some 12,none,.fieldAddr 72 (.s 1)⟩,
 ⟨some 13,none,.load none (some 1) false (.s 12)⟩,
 ⟨some 14,none,.toInt .i64 (.s 13)⟩,
 ⟨some 15,none,.mv false (.s 4)⟩,
 ⟨some 16,none,.len false (.s 15)⟩,
 ⟨some 17,none,.bin .add (.s 14) (.s 16)⟩,
 ⟨some 18,none,.bin .rem (.s 17) (.c (i64 64))⟩,
 ⟨some 19,none,.bin .neq (.s 18) (.c (i64 56))⟩]) (
 .cond (.s 19) (
 .ghost (.keep [1,2,3,4]) .skip) (
 .ghost (.keep [1,2,3,4]) (.exit 0)))) (
 .block 1 (
 .region [1,2,3,4] [] [
 ⟨some 20,none,.mv true (.s 4)⟩,
 ⟨some 21,none,.buildSl 1 1 [u8 0] [(0,1,(.c (u8 0)))]⟩,
 ⟨some 22,none,.append 1 1 false (some false) none 20 (.s 21)⟩,
 ⟨some 4,none,.mv true (.s 22)⟩]))))) (
 .seq (
 .seq (
 .region [1,2,3,4,23] [] [
 ⟨some 23,none,.mv false (.c (i64 0))⟩]) (
 .block 2 (
 .loop (
 .seq (
 .region [1,2,3,4,23,24] [] [
 ⟨some 24,none,.bin .lss (.s 23) (.c (i64 8))⟩]) (
 .seq (
 .cond (.s 24) (
 .ghost (.keep [1,2,3,4,23]) .skip) (
 .ghost (.keep [1,2,4]) (.exit 2))) (
 .seq (
 .block 3 (
 .seq (
 .region [1,2,3,4,5,23] [] [
 ⟨some 25,none,.mv false (.s 23)⟩,
 ⟨some 5,none,.mv false (.s 25)⟩]) (
 .region [1,2,3,4,23] [] [
 ⟨some 26,none,.mv true (.s 4)⟩,
 ⟨some 27,none,.mv false (.s 3)⟩,
 ⟨some 28,none,.mv false (.s 5)⟩,
 ⟨some 29,none,.bin .mul (.c (i64 8)) (.s 28)⟩,
 ⟨some 30,none,.bin .sub (.c (i64 56)) (.s 29)⟩,
 ⟨some 31,none,.bin .shr (.s 27) (.s 30)⟩,
 ⟨some 32,none,.toInt .u8 (.s 31)⟩,
 ⟨some 33,none,.buildSl 1 1 [u8 0] [(0,1,(.s 32))]⟩,
 ⟨some 34,none,.append 1 1 false (some false) none 26 (.s 33)⟩,
 ⟨some 4,none,.mv true (.s 34)⟩]))) (
 .region [1,2,3,4,23] [] [
 ⟨some 35,none,.bin .add (.s 23) (.c (i64 1))⟩,
 ⟨some 23,none,.mv false (.s 35)⟩]))))))) (
 .seq (
 .region [1,2] [.norm [1,2]] [
 ⟨some 36,none,.load (some 73) (some 1) false (.s 1)⟩,
 ⟨some 37,none,.mv true (.s 4)⟩,
 ⟨some 38,none,.toStr none (.s 37)⟩,
 ⟨some 39,none,.call 1 [(.s 36),(.s 38)] []⟩,
 ⟨none,none,.store (some 73) 1 false (.s 1) (.s 39)⟩]) (
 .seq (
 .region [1,2,6] [.norm [1,2,6]] [
 ⟨some 6,none,.alloc 6 (bys (z4c 32))⟩]) (
 .seq (
 .seq (
 .region [1,2,6,40] [] [
 ⟨some 40,none,.mv false (.c (i64 0))⟩]) (
 .block 4 (
 .loop (
 .seq (
 .region [1,2,6,40,41] [] [
 ⟨some 41,none,.bin .lss (.s 40) (.c (i64 32))⟩]) (
 .seq (
 .cond (.s 41) (
 .ghost (.keep [1,2,6,40]) .skip) (
 .ghost (.keep [2,6]) (.exit 4))) (
 .seq (
 .block 5 (
 .seq (
 .region [1,2,6,7,40] [] [
 ⟨some 42,none,.mv false (.s 40)⟩,
 ⟨some 7,none,.mv false (.s 42)⟩]) (
 .region [1,2,6,40] [.norm [1,2,6]] [
 ⟨some 43,none,.mv false (.s 7)⟩,
 ⟨some 44,none,.mv false (.s 7)⟩,
 ⟨some 45,none,.bin .quo (.s 44) (.c (i64 4))⟩,
 ⟨some 46,none,.fieldAddr 0 (.s 1)⟩,
 ⟨some 47,none,.idxArr 8 1 (.s 46) (.s 45)⟩,
 ⟨some 48,none,.load none (some 1) false (.s 47)⟩,
 ⟨some 49,none,.mv false (.s 7)⟩,
 ⟨some 50,none,.bin .rem (.s 49) (.c (i64 4))⟩,
 ⟨some 51,none,.bin .mul (.c (i64 8)) (.s 50)⟩,
 ⟨some 52,none,.bin .sub (.c (i64 24)) (.s 51)⟩,
 ⟨some 53,none,.bin .shr (.s 48) (.s 52)⟩,
 ⟨some 54,none,.toInt .u8 (.s 53)⟩,
 ⟨some 55,none,.idxArr 32 1 (.s 6) (.s 43)⟩,
 ⟨none,none,.store none 6 false (.s 55) (.s 54)⟩]))) (
 .region [1,2,6,40] [] [
 ⟨some 56,none,.bin .add (.s 40) (.c (i64 1))⟩,
 ⟨some 40,none,.mv false (.s 56)⟩]))))))) (
 .seq (
 .region [2] [.norm [1,2,6]] [
 ⟨some 57,none,.load (some 32) (some 6) false (.s 6)⟩,
 ⟨none,none,.store (some 32) 2 false (.s 2) (.s 57)⟩]) (
 .ret)))))))))}

def z5N:z2t:=
 {n:=2,wr:=[],res:=[.cell 4 (some 16) 4],body:=
 .seq (
 .region [4] [.norm [4]] [
 ⟨some 4,none,.alloc 4 (bys (z4c 16))⟩]) (
 .seq (
 .region [4,5] [.norm [4,5]] [
 ⟨some 9,none,.call 0 [] []⟩,
 ⟨some 10,none,.mv false (.s 0)⟩,
 ⟨some 11,none,.toInt .u8 (.s 10)⟩,
 ⟨some 12,none,.buildSl 1 1 [u8 0] [(0,1,(.s 11))]⟩,
 ⟨some 13,none,.toStr none (.s 12)⟩,
 ⟨some 14,none,.call 1 [(.s 9),(.s 13)] []⟩,
 ⟨some 5,none,.alloc 5 (z2p (z2j 8)++bys (z4c 64)++[u64 0])⟩,
 ⟨none,none,.store (some 73) 5 false (.s 5) (.s 14)⟩]) (
 .seq (
 .seq (
 .region [4,5,15,16,17] [] [
 ⟨some 15,none,.mv false (.s 1)⟩,
 ⟨some 16,none,.len false (.s 15)⟩,
 ⟨some 17,none,.mv false (.c (i64 0))⟩]) (
 .block 0 (
 .loop (
 .seq (
 .region [4,5,15,16,17,18] [] [
 ⟨some 18,none,.bin .lss (.s 17) (.s 16)⟩]) (
 .seq (
 .cond (.s 18) (
 .ghost (.keep [4,5,15,16,17]) .skip) (
 .ghost (.keep [4,5]) (.exit 0))) (
 .seq (
 .block 1 (
 .seq (
 .region [4,5,7,15,16,17] [.norm [4,5]] [
 ⟨some 19,none,.idxSl 1 (.s 15) (.s 17)⟩,
 ⟨some 20,none,.load none none false (.s 19)⟩,
 ⟨some 7,none,.mv false (.s 20)⟩]) (
 .region [4,5,15,16,17] [.norm [4,5]] [
 ⟨some 21,none,.load (some 73) (some 5) false (.s 5)⟩,
 ⟨some 22,none,.mv false (.s 7)⟩,
 ⟨some 23,none,.call 7 [(.s 22)] []⟩,
 ⟨some 24,none,.toStr none (.s 23)⟩,
 ⟨some 25,none,.call 1 [(.s 21),(.s 24)] []⟩,
 ⟨none,none,.store (some 73) 5 false (.s 5) (.s 25)⟩]))) (
 .region [4,5,15,16,17] [] [
 ⟨some 26,none,.bin .add (.s 17) (.c (i64 1))⟩,
 ⟨some 17,none,.mv false (.s 26)⟩]))))))) (
 .seq (
 .region [4,8] [.norm [4,5,8]] [
 ⟨some 27,none,.load (some 73) (some 5) false (.s 5)⟩,
 ⟨some 28,none,.call 2 [(.s 27)] []⟩,
 ⟨some 8,none,.alloc 8 (bys (z4c 32))⟩,
 ⟨none,none,.store (some 32) 8 false (.s 8) (.s 28)⟩]) (
 .seq (
 .region [4] [.norm [4,5,8]] [
 ⟨some 29,none,.slArr 32 1 (.s 8) none (some (.c (i64 16))) none⟩,
 ⟨some 30,none,.s2ap 16 (.s 29)⟩,
 ⟨some 31,none,.load (some 16) (some 8) false (.s 30)⟩,
 ⟨none,none,.store (some 16) 4 false (.s 4) (.s 31)⟩]) (
 .ret)))))}

def z7m:z2t:=
 {n:=2,wr:=[],res:=[.cell 4 (some 8) 4],body:=
 .seq (
 .region [2,4] [.norm [2,4]] [
 ⟨some 2,none,.box 2 (some 8) false (.s 0)⟩,
 ⟨some 4,none,.alloc 4 (z2p (z2j 8))⟩]) (
 .seq (
 .region [2,4,5] [.norm [2,4,5]] [
 ⟨some 13,none,.mv false (.s 1)⟩,
 ⟨some 14,none,.call 10 [(.s 13)] []⟩,
 ⟨some 5,none,.alloc 5 (z2p (z2j 64))⟩,
 ⟨none,none,.store (some 64) 5 false (.s 5) (.s 14)⟩]) (
 .seq (
 .region [2,4,5,6,7] [.norm [2,4,5,6,7]] [
 ⟨some 15,none,.slArr 8 1 (.s 2) none (some (.c (i64 4))) none⟩,
 ⟨some 16,none,.s2ap 4 (.s 15)⟩,
 ⟨some 17,none,.load (some 4) (some 2) false (.s 16)⟩,
 ⟨some 18,none,.slArr 8 1 (.s 2) (some (.c (i64 4))) none none⟩,
 ⟨some 19,none,.s2ap 4 (.s 18)⟩,
 ⟨some 20,none,.load (some 4) (some 2) false (.s 19)⟩,
 ⟨some 6,none,.alloc 6 [u32 0,u32 0,u32 0,u32 0]⟩,
 ⟨some 7,none,.alloc 7 [u32 0,u32 0,u32 0,u32 0]⟩,
 ⟨none,none,.store (some 4) 6 false (.s 6) (.s 17)⟩,
 ⟨none,none,.store (some 4) 7 false (.s 7) (.s 20)⟩]) (
 .seq (
 .seq (
 .region [2,4,5,6,7,21,22] [.norm [2,4,5,6,7]] [
 ⟨some 21,none,.load (some 64) none false (.g 0)⟩,
 ⟨some 22,none,.mv false (.c (i64 0))⟩]) (
 .block 0 (
 .loop (
 .seq (
 .region [2,4,5,6,7,21,22,23] [] [
 ⟨some 23,none,.bin .lss (.s 22) (.c (i64 64))⟩]) (
 .seq (
 .cond (.s 23) (
 .ghost (.keep [2,4,5,6,7,21,22]) .skip) (
 .ghost (.keep [2,4,6,7]) (.exit 0))) (
 .seq (
 .block 1 (
 .seq (
 .region [2,4,5,6,7,8,9,21,22] [] [
 ⟨some 24,none,.mv false (.s 22)⟩,
 ⟨some 25,none,.idxA none 1 64 (.s 21) (.s 22)⟩,
 ⟨some 8,none,.mv false (.s 24)⟩,
 ⟨some 9,none,.mv false (.s 25)⟩]) (
 .seq (
 .region [2,4,5,6,7,10,21,22] [.norm [2,4,5,6,7]] [
 ⟨some 26,none,.idxArr 4 1 (.s 7) (.c (i64 3))⟩,
 ⟨some 27,none,.load none (some 7) false (.s 26)⟩,
 ⟨some 28,none,.idxArr 4 1 (.s 7) (.c (i64 0))⟩,
 ⟨some 29,none,.load none (some 7) false (.s 28)⟩,
 ⟨some 30,none,.call 11 [(.s 29),(.c (i64 6)),(.c (i64 11)),(.c (i64 25))] []⟩,
 ⟨some 31,none,.bin .add (.s 27) (.s 30)⟩,
 ⟨some 32,none,.idxArr 4 1 (.s 7) (.c (i64 0))⟩,
 ⟨some 33,none,.load none (some 7) false (.s 32)⟩,
 ⟨some 34,none,.idxArr 4 1 (.s 7) (.c (i64 1))⟩,
 ⟨some 35,none,.load none (some 7) false (.s 34)⟩,
 ⟨some 36,none,.bin .and (.s 33) (.s 35)⟩,
 ⟨some 37,none,.idxArr 4 1 (.s 7) (.c (i64 0))⟩,
 ⟨some 38,none,.load none (some 7) false (.s 37)⟩,
 ⟨some 39,none,.un .xor (.s 38)⟩,
 ⟨some 40,none,.idxArr 4 1 (.s 7) (.c (i64 2))⟩,
 ⟨some 41,none,.load none (some 7) false (.s 40)⟩,
 ⟨some 42,none,.bin .and (.s 39) (.s 41)⟩,
 ⟨some 43,none,.bin .xor (.s 36) (.s 42)⟩,
 ⟨some 44,none,.bin .add (.s 31) (.s 43)⟩,
 ⟨some 45,none,.mv false (.s 9)⟩,
 ⟨some 46,none,.bin .add (.s 44) (.s 45)⟩,
 ⟨some 47,none,.mv false (.s 8)⟩,
 ⟨some 48,none,.idxArr 64 1 (.s 5) (.s 47)⟩,
 ⟨some 49,none,.load none (some 5) false (.s 48)⟩,
 ⟨some 50,none,.bin .add (.s 46) (.s 49)⟩,
 ⟨some 10,none,.mv false (.s 50)⟩]) (
 .seq (
 .region [2,4,5,6,7,10,11,21,22] [.norm [2,4,5,6,7]] [
 ⟨some 51,none,.idxArr 4 1 (.s 6) (.c (i64 0))⟩,
 ⟨some 52,none,.load none (some 6) false (.s 51)⟩,
 ⟨some 53,none,.call 11 [(.s 52),(.c (i64 2)),(.c (i64 13)),(.c (i64 22))] []⟩,
 ⟨some 54,none,.idxArr 4 1 (.s 6) (.c (i64 0))⟩,
 ⟨some 55,none,.load none (some 6) false (.s 54)⟩,
 ⟨some 56,none,.idxArr 4 1 (.s 6) (.c (i64 1))⟩,
 ⟨some 57,none,.load none (some 6) false (.s 56)⟩,
 ⟨some 58,none,.bin .and (.s 55) (.s 57)⟩,
 ⟨some 59,none,.idxArr 4 1 (.s 6) (.c (i64 0))⟩,
 ⟨some 60,none,.load none (some 6) false (.s 59)⟩,
 ⟨some 61,none,.idxArr 4 1 (.s 6) (.c (i64 2))⟩,
 ⟨some 62,none,.load none (some 6) false (.s 61)⟩,
 ⟨some 63,none,.bin .and (.s 60) (.s 62)⟩,
 ⟨some 64,none,.bin .xor (.s 58) (.s 63)⟩,
 ⟨some 65,none,.idxArr 4 1 (.s 6) (.c (i64 1))⟩,
 ⟨some 66,none,.load none (some 6) false (.s 65)⟩,
 ⟨some 67,none,.idxArr 4 1 (.s 6) (.c (i64 2))⟩,
 ⟨some 68,none,.load none (some 6) false (.s 67)⟩,
 ⟨some 69,none,.bin .and (.s 66) (.s 68)⟩,
 ⟨some 70,none,.bin .xor (.s 64) (.s 69)⟩,
 ⟨some 71,none,.bin .add (.s 53) (.s 70)⟩,
 ⟨some 11,none,.mv false (.s 71)⟩]) (
 .seq (
 .region [2,4,5,6,7,10,11,21,22] [.norm [2,4,5,6,7]] [
 ⟨some 72,none,.idxArr 4 1 (.s 6) (.c (i64 3))⟩,
 ⟨some 73,none,.load none (some 6) false (.s 72)⟩,
 ⟨some 74,none,.mv false (.s 10)⟩,
 ⟨some 75,none,.bin .add (.s 73) (.s 74)⟩,
 ⟨some 76,none,.idxArr 4 1 (.s 7) (.c (i64 0))⟩,
 ⟨some 77,none,.load none (some 7) false (.s 76)⟩,
 ⟨some 78,none,.idxArr 4 1 (.s 7) (.c (i64 1))⟩,
 ⟨some 79,none,.load none (some 7) false (.s 78)⟩,
 ⟨some 80,none,.idxArr 4 1 (.s 7) (.c (i64 2))⟩,
 ⟨some 81,none,.load none (some 7) false (.s 80)⟩,
 ⟨some 82,none,.build [u32 0,u32 0,u32 0,u32 0] [(0,1,(.s 75)),(1,1,(.s 77)),(2,1,(.s 79)),(3,1,(.s 81))]⟩,
 ⟨none,none,.store (some 4) 7 false (.s 7) (.s 82)⟩]) (
 .region [2,4,5,6,7,21,22] [.norm [2,4,5,6,7]] [
 ⟨some 83,none,.mv false (.s 10)⟩,
 ⟨some 84,none,.mv false (.s 11)⟩,
 ⟨some 85,none,.bin .add (.s 83) (.s 84)⟩,
 ⟨some 86,none,.idxArr 4 1 (.s 6) (.c (i64 0))⟩,
 ⟨some 87,none,.load none (some 6) false (.s 86)⟩,
 ⟨some 88,none,.idxArr 4 1 (.s 6) (.c (i64 1))⟩,
 ⟨some 89,none,.load none (some 6) false (.s 88)⟩,
 ⟨some 90,none,.idxArr 4 1 (.s 6) (.c (i64 2))⟩,
 ⟨some 91,none,.load none (some 6) false (.s 90)⟩,
 ⟨some 92,none,.build [u32 0,u32 0,u32 0,u32 0] [(0,1,(.s 85)),(1,1,(.s 87)),(2,1,(.s 89)),(3,1,(.s 91))]⟩,
 ⟨none,none,.store (some 4) 6 false (.s 6) (.s 92)⟩])))))) (
 .region [2,4,5,6,7,21,22] [] [
 ⟨some 93,none,.bin .add (.s 22) (.c (i64 1))⟩,
 ⟨some 22,none,.mv false (.s 93)⟩]))))))) (
 .seq (
 .seq (
 .region [2,4,6,7,94] [] [
 ⟨some 94,none,.mv false (.c (i64 0))⟩]) (
 .block 2 (
 .loop (
 .seq (
 .region [2,4,6,7,94,95] [] [
 ⟨some 95,none,.bin .lss (.s 94) (.c (i64 4))⟩]) (
 .seq (
 .cond (.s 95) (
 .ghost (.keep [2,4,6,7,94]) .skip) (
 .ghost (.keep [2,4]) (.exit 2))) (
 .seq (
 .block 3 (
 .seq (
 .region [2,4,6,7,12,94] [] [
 ⟨some 96,none,.mv false (.s 94)⟩,
 ⟨some 12,none,.mv false (.s 96)⟩]) (
 .seq (
 .region [2,4,6,7,12,94] [.norm [2,4,5,6,7]] [
 ⟨some 97,none,.mv false (.s 12)⟩,
 ⟨some 98,none,.idxArr 8 1 (.s 2) (.s 97)⟩,
 ⟨some 99,none,.load none (some 2) false (.s 98)⟩,
 ⟨some 100,none,.mv false (.s 12)⟩,
 ⟨some 101,none,.idxArr 4 1 (.s 6) (.s 100)⟩,
 ⟨some 102,none,.load none (some 6) false (.s 101)⟩,
 ⟨some 103,none,.bin .add (.s 99) (.s 102)⟩,
 ⟨some 104,none,.idxArr 8 1 (.s 2) (.s 97)⟩,
 ⟨none,none,.store none 2 false (.s 104) (.s 103)⟩]) (
 .region [2,4,6,7,94] [.norm [2,4,5,6,7]] [
 ⟨some 105,none,.mv false (.s 12)⟩,
 ⟨some 106,none,.bin .add (.s 105) (.c (i64 4))⟩,
 ⟨some 107,none,.idxArr 8 1 (.s 2) (.s 106)⟩,
 ⟨some 108,none,.load none (some 2) false (.s 107)⟩,
 ⟨some 109,none,.mv false (.s 12)⟩,
 ⟨some 110,none,.idxArr 4 1 (.s 7) (.s 109)⟩,
 ⟨some 111,none,.load none (some 7) false (.s 110)⟩,
 ⟨some 112,none,.bin .add (.s 108) (.s 111)⟩,
 ⟨some 113,none,.idxArr 8 1 (.s 2) (.s 106)⟩,
 ⟨none,none,.store none 2 false (.s 113) (.s 112)⟩])))) (
 .region [2,4,6,7,94] [] [
 ⟨some 114,none,.bin .add (.s 94) (.c (i64 1))⟩,
 ⟨some 94,none,.mv false (.s 114)⟩]))))))) (
 .seq (
 .region [4] [.norm [2,4,5,6,7]] [
 ⟨some 115,none,.load (some 8) (some 2) false (.s 2)⟩,
 ⟨none,none,.store (some 8) 4 false (.s 4) (.s 115)⟩]) (
 .ret))))))}

def z1s:z2t:=
 {n:=1,wr:=[],res:=[.t 2],body:=
 .seq (
 .region [] [] [
 ⟨some 2,none,.mv true (.c (.sl (.own 1) none 0 []))⟩]) (
 .seq (
 .region [2] [] [
 ⟨some 3,none,.mv false (.s 0)⟩,
 ⟨some 4,none,.len true (.s 3)⟩,
 ⟨some 5,none,.call 12 [(.s 4)] []⟩,
 ⟨some 6,none,.mv false (.s 0)⟩,
 ⟨some 7,none,.append 1 1 true (some false) none 5 (.s 6)⟩,
 ⟨some 2,none,.mv true (.s 7)⟩]) (
 .ret))}

def z1n:z2t:=
 {n:=1,wr:=[],res:=[.cell 2 (some 64) 2],body:=
 .seq (
 .region [2] [.norm [2]] [
 ⟨some 2,none,.alloc 2 (z2p (z2j 64))⟩]) (
 .seq (
 .region [2,3] [.norm [2,3]] [
 ⟨some 3,none,.alloc 3 (z2p (z2j 64))⟩]) (
 .seq (
 .seq (
 .region [2,3,11] [] [
 ⟨some 11,none,.mv false (.c (i64 0))⟩]) (
 .block 0 (
 .loop (
 .seq (
 .region [2,3,11,12] [] [
 ⟨some 12,none,.bin .lss (.s 11) (.c (i64 64))⟩]) (
 .seq (
 .cond (.s 12) (
 .ghost (.keep [2,3,11]) .skip) (
 .ghost (.keep [2,3]) (.exit 0))) (
 .seq (
 .block 1 (
 .seq (
 .region [2,3,4,11] [] [
 ⟨some 13,none,.mv false (.s 11)⟩,
 ⟨some 4,none,.mv false (.s 13)⟩]) (
 .seq (
 .seq (
 .region [2,3,4,11,15] [] [
 ⟨some 14,none,.mv false (.s 4)⟩,
 ⟨some 15,none,.bin .lss (.s 14) (.c (i64 16))⟩]) (
 .cond (.s 15) (
 .seq (
 .seq (
 .region [2,3,4,11,22,23,24] [] [
 ⟨some 16,none,.mv false (.s 0)⟩,
 ⟨some 17,none,.mv false (.s 4)⟩,
 ⟨some 18,none,.bin .mul (.c (i64 4)) (.s 17)⟩,
 ⟨some 19,none,.mv false (.s 4)⟩,
 ⟨some 20,none,.bin .mul (.c (i64 4)) (.s 19)⟩,
 ⟨some 21,none,.bin .add (.s 20) (.c (i64 4))⟩,
 ⟨some 22,none,.slSl 1 (.s 16) (some (.s 18)) (some (.s 21)) none⟩,
 ⟨some 23,none,.len false (.s 22)⟩,
 ⟨some 24,none,.mv false (.c (i64 0))⟩]) (
 .block 2 (
 .loop (
 .seq (
 .region [2,3,4,11,22,23,24,25] [] [
 ⟨some 25,none,.bin .lss (.s 24) (.s 23)⟩]) (
 .seq (
 .cond (.s 25) (
 .ghost (.keep [2,3,4,11,22,23,24]) .skip) (
 .ghost (.keep [2,3,11]) (.exit 2))) (
 .seq (
 .block 3 (
 .seq (
 .region [2,3,4,6,11,22,23,24] [.norm [2,3]] [
 ⟨some 26,none,.idxSl 1 (.s 22) (.s 24)⟩,
 ⟨some 27,none,.load none none false (.s 26)⟩,
 ⟨some 6,none,.mv false (.s 27)⟩]) (
 .region [2,3,4,11,22,23,24] [.norm [2,3]] [
 ⟨some 28,none,.mv false (.s 4)⟩,
 ⟨some 29,none,.mv false (.s 4)⟩,
 ⟨some 30,none,.idxArr 64 1 (.s 3) (.s 29)⟩,
 ⟨some 31,none,.load none (some 3) false (.s 30)⟩,
 ⟨some 32,none,.bin .shl (.s 31) (.c (u64 8))⟩,
 ⟨some 33,none,.mv false (.s 6)⟩,
 ⟨some 34,none,.toInt .u32 (.s 33)⟩,
 ⟨some 35,none,.bin .or (.s 32) (.s 34)⟩,
 ⟨some 36,none,.idxArr 64 1 (.s 3) (.s 28)⟩,
 ⟨none,none,.store none 3 false (.s 36) (.s 35)⟩]))) (
 .region [2,3,4,11,22,23,24] [] [
 ⟨some 37,none,.bin .add (.s 24) (.c (i64 1))⟩,
 ⟨some 24,none,.mv false (.s 37)⟩]))))))) (
 .ghost (.keep [2,3,11]) (.exit 1))) (
 .ghost (.keep [2,3,4,11]) .skip))) (
 .seq (
 .region [2,3,4,7,8,11] [.norm [2,3]] [
 ⟨some 38,none,.mv false (.s 4)⟩,
 ⟨some 39,none,.bin .sub (.s 38) (.c (i64 15))⟩,
 ⟨some 40,none,.idxArr 64 1 (.s 3) (.s 39)⟩,
 ⟨some 41,none,.load none (some 3) false (.s 40)⟩,
 ⟨some 42,none,.mv false (.s 4)⟩,
 ⟨some 43,none,.bin .sub (.s 42) (.c (i64 2))⟩,
 ⟨some 44,none,.idxArr 64 1 (.s 3) (.s 43)⟩,
 ⟨some 45,none,.load none (some 3) false (.s 44)⟩,
 ⟨some 7,none,.mv false (.s 41)⟩,
 ⟨some 8,none,.mv false (.s 45)⟩]) (
 .seq (
 .region [2,3,4,8,9,11] [] [
 ⟨some 46,none,.mv false (.s 7)⟩,
 ⟨some 47,none,.call 13 [(.s 46),(.c (i64 (-7)))] []⟩,
 ⟨some 48,none,.mv false (.s 7)⟩,
 ⟨some 49,none,.call 13 [(.s 48),(.c (i64 (-18)))] []⟩,
 ⟨some 50,none,.bin .xor (.s 47) (.s 49)⟩,
 ⟨some 51,none,.mv false (.s 7)⟩,
 ⟨some 52,none,.bin .shr (.s 51) (.c (u64 3))⟩,
 ⟨some 53,none,.bin .xor (.s 50) (.s 52)⟩,
 ⟨some 9,none,.mv false (.s 53)⟩]) (
 .seq (
 .region [2,3,4,9,10,11] [] [
 ⟨some 54,none,.mv false (.s 8)⟩,
 ⟨some 55,none,.call 13 [(.s 54),(.c (i64 (-17)))] []⟩,
 ⟨some 56,none,.mv false (.s 8)⟩,
 ⟨some 57,none,.call 13 [(.s 56),(.c (i64 (-19)))] []⟩,
 ⟨some 58,none,.bin .xor (.s 55) (.s 57)⟩,
 ⟨some 59,none,.mv false (.s 8)⟩,
 ⟨some 60,none,.bin .shr (.s 59) (.c (u64 10))⟩,
 ⟨some 61,none,.bin .xor (.s 58) (.s 60)⟩,
 ⟨some 10,none,.mv false (.s 61)⟩]) (
 .region [2,3,11] [.norm [2,3]] [
 ⟨some 62,none,.mv false (.s 4)⟩,
 ⟨some 63,none,.mv false (.s 4)⟩,
 ⟨some 64,none,.bin .sub (.s 63) (.c (i64 16))⟩,
 ⟨some 65,none,.idxArr 64 1 (.s 3) (.s 64)⟩,
 ⟨some 66,none,.load none (some 3) false (.s 65)⟩,
 ⟨some 67,none,.mv false (.s 9)⟩,
 ⟨some 68,none,.bin .add (.s 66) (.s 67)⟩,
 ⟨some 69,none,.mv false (.s 4)⟩,
 ⟨some 70,none,.bin .sub (.s 69) (.c (i64 7))⟩,
 ⟨some 71,none,.idxArr 64 1 (.s 3) (.s 70)⟩,
 ⟨some 72,none,.load none (some 3) false (.s 71)⟩,
 ⟨some 73,none,.bin .add (.s 68) (.s 72)⟩,
 ⟨some 74,none,.mv false (.s 10)⟩,
 ⟨some 75,none,.bin .add (.s 73) (.s 74)⟩,
 ⟨some 76,none,.idxArr 64 1 (.s 3) (.s 62)⟩,
 ⟨none,none,.store none 3 false (.s 76) (.s 75)⟩]))))))) (
 .region [2,3,11] [] [
 ⟨some 77,none,.bin .add (.s 11) (.c (i64 1))⟩,
 ⟨some 11,none,.mv false (.s 77)⟩]))))))) (
 .seq (
 .region [2] [.norm [2,3]] [
 ⟨some 78,none,.load (some 64) (some 3) false (.s 3)⟩,
 ⟨none,none,.store (some 64) 2 false (.s 2) (.s 78)⟩]) (
 .ret))))}

def z5D:z2t:=
 {n:=4,wr:=[],res:=[.t 8],body:=
 .seq (
 .region [] [] [
 ⟨some 8,none,.mv false (.c (u32 0))⟩]) (
 .seq (
 .region [8] [] [
 ⟨some 9,none,.mv false (.s 0)⟩,
 ⟨some 10,none,.mv false (.s 1)⟩,
 ⟨some 11,none,.un .neg (.s 10)⟩,
 ⟨some 12,none,.call 13 [(.s 9),(.s 11)] []⟩,
 ⟨some 13,none,.mv false (.s 0)⟩,
 ⟨some 14,none,.mv false (.s 2)⟩,
 ⟨some 15,none,.un .neg (.s 14)⟩,
 ⟨some 16,none,.call 13 [(.s 13),(.s 15)] []⟩,
 ⟨some 17,none,.bin .xor (.s 12) (.s 16)⟩,
 ⟨some 18,none,.mv false (.s 0)⟩,
 ⟨some 19,none,.mv false (.s 3)⟩,
 ⟨some 20,none,.un .neg (.s 19)⟩,
 ⟨some 21,none,.call 13 [(.s 18),(.s 20)] []⟩,
 ⟨some 22,none,.bin .xor (.s 17) (.s 21)⟩,
 ⟨some 8,none,.mv false (.s 22)⟩]) (
 .ret))}

def z8F:z2t:=
 {n:=1,wr:=[],res:=[.t 2],body:=
 .seq (
 .region [] [] [
 ⟨some 2,none,.mv true (.c (.sl (.own 1) none 0 []))⟩]) (
 .scope (
 .seq (
 .region [3,4] [] [
 ⟨some 8,none,.mv false (.s 0)⟩,
 ⟨some 9,none,.toInt .u64 (.s 8)⟩,
 ⟨some 3,none,.mv false (.s 9)⟩,
 ⟨some 4,none,.mv false (.c (u8 0))⟩]) (
 .seq (
 .seq (
 .region [3,4,11] [] [
 ⟨some 10,none,.mv false (.s 0)⟩,
 ⟨some 11,none,.bin .lss (.s 10) (.c (i64 0))⟩]) (
 .cond (.s 11) (
 .region [3,4] [] [
 ⟨some 12,none,.mv false (.s 3)⟩,
 ⟨some 13,none,.un .xor (.s 12)⟩,
 ⟨some 3,none,.mv false (.s 13)⟩,
 ⟨some 4,none,.mv false (.c (u8 255))⟩]) (
 .ghost (.keep [3,4]) .skip))) (
 .seq (
 .region [3,4,5] [] [
 ⟨some 5,none,.mv false (.c (i64 8))⟩]) (
 .seq (
 .ghost (.keep [3,4,5]) .skip) (
 .seq (
 .block 0 (
 .loop (
 .seq (
 .seq (
 .region [3,4,5,15] [] [
 ⟨some 14,none,.mv false (.s 5)⟩,
 ⟨some 15,none,.bin .gtr (.s 14) (.c (i64 0))⟩]) (
 .cond (.s 15) (
 .ghost (.keep [3,4,5]) .skip) (
 .ghost (.keep [3,4,5]) (.exit 0)))) (
 .block 1 (
 .seq (
 .seq (
 .region [3,4,5,21] [] [
 ⟨some 16,none,.mv false (.s 3)⟩,
 ⟨some 17,none,.mv false (.s 5)⟩,
 ⟨some 18,none,.bin .sub (.s 17) (.c (i64 1))⟩,
 ⟨some 19,none,.bin .mul (.c (i64 8)) (.s 18)⟩,
 ⟨some 20,none,.bin .shr (.s 16) (.s 19)⟩,
 ⟨some 21,none,.bin .gtr (.s 20) (.c (u64 0))⟩]) (
 .cond (.s 21) (
 .ghost (.keep [3,4,5]) (.exit 0)) (
 .ghost (.keep [3,4,5]) .skip))) (
 .region [3,4,5] [] [
 ⟨some 22,none,.mv false (.s 5)⟩,
 ⟨some 23,none,.bin .sub (.s 22) (.c (i64 1))⟩,
 ⟨some 5,none,.mv false (.s 23)⟩])))))) (
 .seq (
 .region [3,4,5,6] [] [
 ⟨some 24,none,.mv false (.s 5)⟩,
 ⟨some 25,none,.bin .add (.c (i64 128)) (.s 24)⟩,
 ⟨some 26,none,.toInt .u8 (.s 25)⟩,
 ⟨some 27,none,.mv false (.s 4)⟩,
 ⟨some 28,none,.bin .xor (.s 26) (.s 27)⟩,
 ⟨some 29,none,.buildSl 1 1 [u8 0] [(0,1,(.s 28))]⟩,
 ⟨some 6,none,.mv true (.s 29)⟩]) (
 .seq (
 .seq (
 .region [3,4,6,7] [] [
 ⟨some 30,none,.mv false (.s 5)⟩,
 ⟨some 31,none,.bin .sub (.s 30) (.c (i64 1))⟩,
 ⟨some 7,none,.mv false (.s 31)⟩]) (
 .block 2 (
 .loop (
 .seq (
 .seq (
 .region [3,4,6,7,33] [] [
 ⟨some 32,none,.mv false (.s 7)⟩,
 ⟨some 33,none,.bin .geq (.s 32) (.c (i64 0))⟩]) (
 .cond (.s 33) (
 .ghost (.keep [3,4,6,7]) .skip) (
 .ghost (.keep [6]) (.exit 2)))) (
 .seq (
 .block 3 (
 .region [3,4,6,7] [] [
 ⟨some 36,none,.mv true (.s 6)⟩,
 ⟨some 37,none,.mv false (.s 3)⟩,
 ⟨some 38,none,.mv false (.s 7)⟩,
 ⟨some 39,none,.bin .mul (.c (i64 8)) (.s 38)⟩,
 ⟨some 40,none,.bin .shr (.s 37) (.s 39)⟩,
 ⟨some 41,none,.toInt .u8 (.s 40)⟩,
 ⟨some 42,none,.mv false (.s 4)⟩,
 ⟨some 43,none,.bin .xor (.s 41) (.s 42)⟩,
 ⟨some 44,none,.buildSl 1 1 [u8 0] [(0,1,(.s 43))]⟩,
 ⟨some 45,none,.append 1 1 false (some false) none 36 (.s 44)⟩,
 ⟨some 6,none,.mv true (.s 45)⟩])) (
 .region [3,4,6,7] [] [
 ⟨some 34,none,.mv false (.s 7)⟩,
 ⟨some 35,none,.bin .sub (.s 34) (.c (i64 1))⟩,
 ⟨some 7,none,.mv false (.s 35)⟩])))))) (
 .seq (
 .region [2] [] [
 ⟨some 46,none,.mv true (.s 6)⟩,
 ⟨some 2,none,.mv true (.s 46)⟩]) (
 .ret))))))))))}

def z3i:z2t:=
 {n:=2,wr:=[],res:=[.t 4],body:=
 .seq (
 .region [] [] [
 ⟨some 4,none,.mv false (.c (u32 0))⟩]) (
 .seq (
 .region [5] [] [
 ⟨some 6,none,.mv false (.s 1)⟩,
 ⟨some 7,none,.toInt .u64 (.s 6)⟩,
 ⟨some 8,none,.bin .and (.s 7) (.c (u64 31))⟩,
 ⟨some 5,none,.mv false (.s 8)⟩]) (
 .seq (
 .region [4] [] [
 ⟨some 9,none,.mv false (.s 0)⟩,
 ⟨some 10,none,.mv false (.s 5)⟩,
 ⟨some 11,none,.bin .shl (.s 9) (.s 10)⟩,
 ⟨some 12,none,.mv false (.s 0)⟩,
 ⟨some 13,none,.mv false (.s 5)⟩,
 ⟨some 14,none,.bin .sub (.c (u64 32)) (.s 13)⟩,
 ⟨some 15,none,.bin .shr (.s 12) (.s 14)⟩,
 ⟨some 16,none,.bin .or (.s 11) (.s 15)⟩,
 ⟨some 4,none,.mv false (.s 16)⟩]) (
 .ret)))}

end Go.Abs
end

section
namespace Go.Abs
def z2l (n:Int):Prop:= -9223372036854775808≤n∧n≤9223372036854775807
def z99a:z5a:=⟨fun ds=>∃n,z2l n∧ds=[i64 n],fun ds=> .sl (.own 1) (some false) (z1t (asI (nth ds 0))).length (bys (z1t (asI (nth ds 0))))⟩
set_option maxRecDepth 100000 in
theorem z08b (c:UInt8):c^^^255=255-c:=by
 have h:∀k:Fin 256,UInt8.ofNat k.val^^^255=255-UInt8.ofNat k.val:=by decide+kernel
 have:=h ⟨c.toNat,c.toNat_lt⟩
 simpa using this
theorem z7Cc (E:Env):∀ds,z99a.pre ds→ds.length=z8F.n∧awp E z8F.body (z1A z8F.res (z99a.post ds)) (z9c z8F.wr ds):=by
 rintro _ ⟨n,⟨hn0,hn1⟩,rfl⟩
 simp(disch:=first|omega|(simp;omega)) [z8F,z99a]
 refine z3a fun Q0 hQ0=> ?_
 have key:∀(x:UInt64) (f:UInt8),x.toNat=mag n→(∀c,c^^^f=flp n c)→Q0 .normal ⟨[(0,i64 n)],[(3,u64 x),(4,u8 f)],[]⟩:=by
  intro x f hx hf
  simp(disch:=first|omega|(simp;omega)) [hQ0]
  refine z3a fun Q1 hQ1=> ?_
  have key2:∀k:Nat,k≤8→(z0fa (mag n)).length=k→Q1 (.exit 0) ⟨[(0,i64 n)],[(3,u64 x),(4,u8 f),(5,i64 k)],[]⟩:=by
   intro k hk8 hk
   simp(disch:=first|omega|(simp;omega)) [hQ1,z9a]
   refine z3a fun Q2 hQ2=> ?_
   have ehd:(UInt8.ofInt 128+UInt8.ofInt (k:Int))^^^f=flp n (UInt8.ofNat (128+k)):=by
    rw[←hf]
    congr 1
    apply UInt8.toNat_inj.1
    simp[z6ma]
    omega
   rw[ehd]
   refine z4d (fun j:Nat=>⟨[(0,i64 n)],[(3,u64 x),(4,u8 f),(6,.sl (.own 1) (some false) (1+j) (bys (flp n (UInt8.ofNat (128+k))::((z0fa (mag n)).reverse.take j).map (flp n)))),(7,i64 ((k:Int)-1-j))],[]⟩)
    (fun j=>k-j) (· ≤k) 0 (by simp;rfl) (by simp) fun j hj=> ?_
   refine z3a fun Q3 hQ3=> ?_
   simp(disch:=first|omega|(simp;omega)) [z9a]
   rw[z7b]
   refine⟨by simp,fun h=> ?_,fun h=> ?_⟩<;>simp at h
   ·simp(disch:=first|omega|(simp;omega)) [z9a]
    refine⟨by omega,by omega,?_⟩
    have hjk:j<k:=by omega
    have e8:(8*((k:Int)-1-(j:Int))).toNat=8*(k-1-j):=by omega
    have hel:(z2xa x (8*(k-1-j))).toUInt8^^^f=flp n ((z0fa (mag n))[k-1-j]'(by omega)):=by
     rw[hf,z4ma,z49a hx,z8Ua]
    have htk:((z0fa (mag n)).map (flp n)).reverse.take (j+1)=((z0fa (mag n)).map (flp n)).reverse.take j++[flp n ((z0fa (mag n))[k-1-j]'(by omega))]:=by
     rw[List.take_succ_eq_append_getElem (by simp;omega)]
     simp[hk]
    rw[hQ3,e8,hel]
    simp
    refine⟨j+1,by omega,by omega,⟨by omega,?_⟩,by omega⟩
    rw[htk]
    simp[bys]
   ·have e:j=k:=by omega
    subst e
    simp[hQ3,hQ2,z1t,hk,List.take_of_length_le]
    omega
  refine z4d (fun k:Nat=>⟨[(0,i64 n)],[(3,u64 x),(4,u8 f),(5,i64 k)],[]⟩) (fun k=>k) (fun k=>k≤8∧(z0fa (mag n)).length≤k) 8 rfl ?_ fun k hk=> ?_
  ·refine⟨by decide,(z3aa 8 _).2 ?_⟩
   rw[←hx]
   exact x.toNat_lt
  ·obtain⟨hk8,hkl⟩:=hk
   refine z3a fun Q2 hQ2=> ?_
   simp(disch:=first|omega|(simp;omega)) [z9a]
   rw[z7b]
   refine⟨by simp,fun h=> ?_,fun h=> ?_⟩<;>simp at h
   ·obtain⟨j,rfl⟩:∃j,k=j+1:=⟨k-1,by omega⟩
    have e1:((8:Int)*(((j+1:Nat):Int)-1)).toNat=8*j:=by omega
    simp(disch:=first|omega|(simp;omega)) [z9a]
    refine⟨by omega,?_⟩
    rw[z7b]
    refine⟨by simp,fun h2=> ?_,fun h2=> ?_⟩<;>simp at h2
    ·simp[hQ2]
     refine key2 (j+1) hk8 ?_
     have h3:¬(z0fa (mag n)).length≤j:=by
      rw[z3aa,←z8Ua,Nat.not_lt,←z0ta hx,←e1]
      simpa using h2
     omega
    ·simp(disch:=first|omega|(simp;omega)) [hQ2,z9a]
     have h3:¬0<z2xa x (8*j):=by rw[←e1];simpa using h2
     have h4:(z0fa (mag n)).length≤j:=by rw[z3aa,←z8Ua,←Nat.not_le,←z0ta hx];exact h3
     exact⟨j,by omega,⟨by omega,h4⟩,by omega⟩
   ·simp[hQ2]
    subst h
    exact key2 0 (by decide) (by omega)
 rw[z7b]
 have hge:∀m:Int,0≤m→m<18446744073709551616→(UInt64.ofInt m).toNat=m.toNat:=fun m h0 h1=>by rw[z6la,Int.emod_eq_of_lt h0 h1]
 refine⟨by simp,fun h=> ?_,fun h=> ?_⟩<;>simp at h
 ·simp
  refine key _ 255 ?_ ?_
  ·rw[mag,if_pos h,UInt64.toNat_not,z6la]
   have:UInt64.size=18446744073709551616:=rfl
   omega
  ·intro c
   rw[flp,if_pos h]
   exact z08b c
 ·simp
  refine key _ 0 ?_ ?_
  ·rw[hge n h (by omega),mag,if_neg (by omega)]
  ·intro c
   rw[flp,if_neg (by omega)]
   simp
end Go.Abs
end

section
namespace Go.Abs
def z3U (s:List UInt8):List UInt8:=z1t s.length++s
def z39:z5a:=⟨fun ds=>∃s:List UInt8,s.length≤1099511000000∧ds=[st s],fun ds=> .sl (.own 1) (some false) (z3U (gS (nth ds 0))).length (bys (z3U (gS (nth ds 0))))⟩
theorem z3db {n:Int} (h:z2l n):(z0fa (mag n)).length≤8:=by
 rw[z3aa,mag]
 obtain⟨h1,h2⟩:=h
 split<;>omega
theorem z4l {n:Int} (h:z2l n):(z1t n).length≤9:=by
 have:=z3db h
 simp[z1t];omega
theorem z4yb (E:Env) (h12:E.G 12=z99a):∀ds,z39.pre ds→ds.length=z1s.n∧awp E z1s.body (z1A z1s.res (z39.post ds)) (z9c z1s.wr ds):=by
 rintro _ ⟨s,hs,rfl⟩
 have hi:z2l (s.length:Int):=⟨by omega,by omega⟩
 have hl:=z4l hi
 simp(disch:=first|omega|(simp;omega)) [z1s,z39,h12,z99a,z3U,hi,z6J]
 omega
end Go.Abs
end

section
namespace Go.Abs
def z3Lb (k:List UInt8) (w:UInt8):List UInt8:=(k.take 64++z4c (64-k.length)).map (· ^^^w)
theorem z4zb (k:List UInt8) (w:UInt8):(z3Lb k w).length=64:=by simp[z3Lb];omega
def z3Bb (key:List UInt8):List UInt8:=if 64<key.length then sha key else key
def mac (key text:List UInt8):List UInt8:=sha (z3Lb (z3Bb key) 92++sha (z3Lb (z3Bb key) 54++text))
def z96b:z5a:=⟨fun ds=>∃(w:UInt8) (key:List UInt8),ds=[u8 w,.ep [st key]],fun ds=>st (z3Lb (gS (nth (gCs (nth ds 1)) 0)) (gU8 (nth ds 0)))⟩
def macC:z5a:=⟨fun ds=>∃key text:List UInt8,key.length<1099511627776∧text.length<1099511000000∧ds=[st key,st text],fun ds=>st (mac (gS (nth ds 0)) (gS (nth ds 1)))⟩
def sts (l:List (List UInt8)):List z2a:=l.map st
@[simp] theorem z7gc (l:List (List UInt8)):(sts l).length=l.length:=by simp[sts]
@[simp] theorem z42c:sts []=[]:=rfl
theorem z8Ib (x:List UInt8) (l:List (List UInt8)):sts (x::l)=st x::sts l:=rfl
@[simp] theorem z2Jc (l:List (List UInt8)) (n:Nat):(sts l).take n=sts (l.take n):=by simp[sts]
@[simp] theorem z4Lc (l:List (List UInt8)) (n:Nat):(sts l).drop n=sts (l.drop n):=by simp[sts]
def atS (l:List (List UInt8)) (i:Nat):List UInt8:=l.getD i []
theorem z7Kb {l:List (List UInt8)} {n:Nat} (h:n<l.length):hdA (sts (l.drop n))=st (atS l n):=by
 rw[List.drop_eq_getElem_cons h,z8Ib]
 simp[atS,List.getD,List.getElem?_eq_getElem h]
def gSs (l:List z2a):List (List UInt8):=l.map gS
@[simp] theorem z6Xc (l:List (List UInt8)):gSs (sts l)=l:=by simp[gSs,sts,Function.comp_def]
@[simp] theorem z87c:gSs []=[]:=rfl
theorem z1ta {P:z2a→Prop} {l:List (List UInt8)} (h:∀x,P (st x)):∀c∈sts l,P c:=fun c hc=>by
 simp only[sts,List.mem_map] at hc
 obtain⟨x,_,rfl⟩:=hc
 exact h x
@[simp] theorem z7Kc (l:List (List UInt8)):(∀c∈sts l,z6f c=true)↔True:=iff_true_intro (z1ta (by simp))
@[simp] theorem z0zc (l:List (List UInt8)):z2h (sts l)=true:=z5ia (z1ta (by simp))
@[simp] theorem z3Oc (l:List (List UInt8)):(∀c∈sts l,z2d c)↔True:=iff_true_intro (z1ta (by simp))
@[simp] theorem z83c (l:List (List UInt8)):(∀c∈sts l,z1f c=false)↔True:=iff_true_intro (z1ta (by simp))
@[simp] theorem z7Ib (l:List (List UInt8)):(∀c∈sts l,z6f c=true∧z2d c)↔True:=iff_true_intro (z1ta (by simp))
@[simp] theorem z2Ec (l:List (List UInt8)):z7g (sts l)=[]:=by induction l<;>simp_all [sts]
def z22 (tag:Int) (parts:List (List UInt8)):List UInt8:=UInt8.ofInt tag::parts.flatMap z3U
def z5G (tag:Int) (parts:List (List UInt8)):List UInt8:=(sha (z22 tag parts)).take 16
def z8ea (parts:List (List UInt8)):Nat:=(parts.map fun p=>p.length+9).sum
theorem z3Gb {s:List UInt8} (h:s.length<1099511627776):(z3U s).length≤s.length+9:=by
 have:=z4l (n:=s.length) ⟨by omega,by omega⟩
 simp[z3U];omega
def ofC:z5a:=⟨fun ds=>∃(tag:Int) (nl:Option Bool) (parts:List (List UInt8)),z8ea parts<1099511000000∧ds=[i64 tag,.sl .plain nl parts.length (sts parts)],fun ds=> .agg (bys (z5G (asI (nth ds 0)) (gSs (gCs (nth ds 1)))))⟩
theorem z8A (tag:Int) (parts:List (List UInt8)):(z5G tag parts).length=16:=by simp[z5G,z5Da]

def svc (l:List UInt8):List z2a:=scs (z2z.init.add l)
theorem z75a (l:List UInt8):(z2z.init.add l).b.length=64:=by rw[z3wa,z7Fb]
@[simp] theorem z7mb (l:List UInt8):(svc l).length=73:=z8J (z75a l)
@[simp] theorem z2Uc (l:List UInt8):(∀c∈svc l,z2d c)↔True:=z9sb _
@[simp] theorem z2Yc (l:List UInt8):(∀c∈svc l,z1f c=false)↔True:=z86b _
@[simp] theorem z3qc (l:List UInt8):z2h (svc l)=true:=z7Ma _
@[simp] theorem z2Mc (l:List UInt8):(∀c∈svc l,z6f c=true)↔True:=z0tb _
@[simp] theorem z70c (l:List UInt8):z0c (svc l)=true:=z2Ub _
@[simp] theorem z4Jc (l:List UInt8):z7g (svc l)=[]:=z3Ib _
@[simp] theorem z1Pc (l:List UInt8):(svc l).take 73=svc l:=List.take_of_length_le (by rw[z7mb];decide)
@[simp] theorem z4gc {zs:List z2a} (l:List UInt8) (h:zs.length=73):splice zs 0 (svc l)=svc l:=z8f (by rw[z7mb,h])
@[simp] theorem z7dc:(z2p (z2j 8)++(bys (z4c 64)++[u64 0])).length=73:=z1Za
@[simp] theorem z4sc:z6ga.pre []=True:=by simp[z6ga]
@[simp] theorem z3dc:z6ga.post []= .agg (svc []):=rfl
@[simp] theorem z2bd (l m:List UInt8):z1bb.pre [.agg (svc l),st m]=True:=eq_true ⟨_,m,z75a l,rfl⟩
@[simp] theorem z4Wc (l m:List UInt8):z1bb.post [.agg (svc l),st m]= .agg (svc (l++m)):=by
 simp[z1bb,svc,z2z.v,z2z.of_scs _ (z75a l),z43]
@[simp] theorem z2nc (l:List UInt8) (nl:Option Bool) (n:Nat):z4wc.post [.sl .plain nl n (bys l)]= .agg (bys (sha l)):=by simp[z4wc]
theorem z13b {l:List UInt8} (h:l.length<1099511627776):z4Bb.pre [.agg (svc l)]=True:=
 eq_true ⟨_,z75a l,by rw[z9Na _ _ (by show 0+l.length<_;omega)];show 0+l.length<_;omega,rfl⟩
@[simp] theorem z5Tc (l:List UInt8):z4Bb.post [.agg (svc l)]= .agg (bys (sha l)):=by simp[z4Bb,svc,z2z.of_scs _ (z75a l),sha]
@[simp] theorem z5Vc (w:UInt8) (k:List UInt8):z96b.pre [u8 w,.ep [st k]]=True:=eq_true ⟨w,k,rfl⟩
@[simp] theorem z7Fc (w:UInt8) (k:List UInt8):z96b.post [u8 w,.ep [st k]]=st (z3Lb k w):=by simp[z96b]
@[simp] theorem z2Lc (k m:List UInt8):macC.post [st k,st m]=st (mac k m):=by simp[macC]
theorem z9va {s:List UInt8} (h:s.length≤1099511000000):z39.pre [st s]=True:=eq_true ⟨s,h,rfl⟩
@[simp] theorem z1ic (s:List UInt8):z39.post [st s]= .sl (.own 1) (some false) (z3U s).length (bys (z3U s)):=by simp[z39]
theorem z6Qb {tag:Int} {nl:Option Bool} {n:Nat} {l:List (List UInt8)} (hn:n=l.length) (h:z8ea l<1099511000000):ofC.pre [i64 tag,.sl .plain nl n (sts l)]=True:=eq_true ⟨tag,nl,l,h,by rw[hn]⟩
@[simp] theorem z81b (tag:Int) (nl:Option Bool) (n:Nat) (l:List (List UInt8)):ofC.post [i64 tag,.sl .plain nl n (sts l)]= .agg (bys (z5G tag l)):=by simp[ofC]
attribute [simp] z4zb z5Da z8A
theorem z0z {zs:List z2a} {l:List UInt8} (h:l.length=zs.length):splice zs 0 (bys l)=bys l:=z8f (by simpa using h)
theorem z8C:∀{l:List (List UInt8)},z8ea l<1099511000000→(l.flatMap z3U).length≤z8ea l
 |[],_=>by simp
 |x::l,h=>by
  simp only[z8ea,List.map_cons,List.sum_cons] at h
  have h1:=z3Gb (s:=x) (by omega)
  have h2:=z8C (l:=l) (by simp only[z8ea];omega)
  simp only[z8ea] at h2
  simp only[List.flatMap_cons,List.length_append,z8ea,List.map_cons,List.sum_cons]
  omega
theorem z2sa {l:List (List UInt8)} {i:Nat} (hi:i<l.length):(atS l i).length+9≤z8ea l:=by
 induction l generalizing i with
 |nil=>simp at hi
 |cons x l ih=>
  simp only[z8ea,List.map_cons,List.sum_cons]
  cases i with
  |zero=>simp[atS]
  |succ i=>
   have:=ih (i:=i) (by simpa using hi)
   simp only[z8ea] at this
   simp only[atS,List.getD_cons_succ] at this⊢
   omega
theorem z1p {α β:Type} (l:List α) (f:α→List β) (d:α) {i:Nat} (hi:i<l.length):(l.take (i+1)).flatMap f=(l.take i).flatMap f++f (l.getD i d):=by
 rw[List.take_succ_eq_append_getElem hi,List.getD,List.getElem?_eq_getElem hi]
 simp only[List.flatMap_append,List.flatMap_cons,List.flatMap_nil,List.append_nil,Option.getD_some]
theorem z23c {l:List UInt8} {i:Nat} (h:i<l.length):l.take (i+1)=l.take i++[at8 l i]:=by
 rw[List.take_succ_eq_append_getElem h,at8,List.getD,List.getElem?_eq_getElem h];rfl
theorem z2ea:∀l:List (List UInt8),l.length≤z8ea l
 |[]=>by simp
 |x::l=>by
  have:=z2ea l
  simp only[z8ea,List.map_cons,List.sum_cons,List.length_cons] at this⊢
  omega
theorem z7Ia (l:List (List UInt8)) (i:Nat):z8ea (l.take i)≤z8ea l:=by
 have:z8ea l=z8ea (l.take i)+z8ea (l.drop i):=by
  simp only[z8ea]
  rw[←List.sum_append,←List.map_append,List.take_append_drop]
 omega
end Go.Abs
end

section
namespace Go.Abs
def z5Ob:z5a:=⟨fun ds=>∃a b:List UInt8,a.length<1099511627776∧b.length<1099511627776∧ds=[st a,st b],fun ds=>bo (gS (nth ds 0)==gS (nth ds 1))⟩
end Go.Abs
end

section
namespace Go.Abs
theorem z6wc {cs:List z2a} (h:(GT.int .u8).has cs):∃x:UInt8,cs=[u8 x]:=by
 simp only[GT.has] at h
 obtain⟨n,rfl,h0,h1⟩:=h
 have e0:IntKind.u8.min=0:=rfl
 have e1:IntKind.u8.max=255:=rfl
 rw[e0] at h0
 rw[e1] at h1
 refine⟨UInt8.ofInt n,?_⟩
 have:((UInt8.ofInt n).toNat:Int)=n:=by rw[z6ma];omega
 rw[u8,this]
theorem z7s {cs:List z2a} (h:(GT.int .i64).has cs):∃x:Int,-9223372036854775808≤x∧x≤9223372036854775807∧cs=[i64 x]:=by
 simp only[GT.has] at h
 obtain⟨n,rfl,h0,h1⟩:=h
 exact⟨n,h0,h1,rfl⟩
theorem z4Gb {cs:List z2a} (h:GT.bool.has cs):∃x:Bool,cs=[bo x]:=by
 simp only[GT.has] at h
 exact h
theorem z15b {cs:List z2a} (h:GT.str.has cs):∃l:List UInt8,cs=[st l]:=by
 simp only[GT.has] at h
 obtain⟨s,rfl,_⟩:=h
 exact⟨s.data.toList,by simp[st]⟩
theorem z4qb {α:Type} {P:List z2a→Prop} {f:α→List z2a} (h:∀cs,P cs→∃x,cs=f x):∀(ess:List (List z2a)),(∀c∈ess,P c)→∃l:List α,ess=l.map f
 |[],_=>⟨[],rfl⟩
 |c::ess,hc=>by
  obtain⟨x,hx⟩:=h c (hc c (by simp))
  obtain⟨l,hl⟩:=z4qb h ess fun d hd=>hc d (by simp[hd])
  exact⟨x::l,by rw[List.map_cons,←hx,←hl]⟩
theorem z83a {α:Type} (f:α→z2a):∀l:List α,(l.map fun x=>[f x]).flatten=l.map f
 |[]=>rfl
 |x::l=>by simp[z83a f l]
theorem z3Za {n:Nat} {cs:List z2a} (h:(GT.arr n (.int .u8)).has cs):∃l:List UInt8,l.length=n∧cs=bys l:=by
 simp only[GT.has] at h
 obtain⟨ess,hn,h1,rfl⟩:=h
 obtain⟨l,rfl⟩:=z4qb (P:=(GT.int .u8).has) (f:=fun x=>[u8 x]) (fun cs h=>z6wc h) ess (by simpa only[GT.has] using h1)
 exact⟨l,by simpa using hn,by rw[z83a];rfl⟩
@[simp] theorem z4Yc (g:GT) (c:z2a) (h:g.row=false):g.top [c]=c:=by simp[GT.top,h]

theorem z92a {K:Cx} {W:World} {name:String} {k:IntKind} {zs:List Int} {g:Nat} {cs:List z2a} (h:Lib.TabIs K.P W name k zs) (hg:K.P.globalNamed name=some g) (hc:cs=zs.map fun z=> .lit (.int k z)):
  z0f K.toCon (z8na W) W cs g 0:=by
 subst hc
 refine z0f.mk fun i d hd=> ?_
 rw[List.getElem?_map,Option.map_eq_some_iff] at hd
 obtain⟨z,hz,rfl⟩:=hd
 have:=World.var?_cell hg h i
 rw[Nat.zero_add]
 have hcell:W.cell? ⟨g,i,none⟩=some (.int k z):=by rw[this];simp[hz]
 exact⟨z5jb hcell,_,hcell,by simp[z7c]⟩
def z9ba {H:Type}:DataW H→Nat
 | .lit (.string l)=>l.length+1
 | .lit _=>1
 | .nil=>1
 | .ptr d=>z9ba d+1
 | .slice es _=>(es.attach.map fun⟨d,_⟩=>z9ba d).sum+1
 | .agg ps=>(ps.attach.map fun⟨d,_⟩=>z9ba d).sum+1
 |_=>1
theorem z36a {H:Type}:z7fc (z9ba (H:=H)):=by
 refine⟨fun l=> ?_,fun l=> ?_,?_,fun es sp=> ?_,fun ps=> ?_⟩
 ·cases l<;>simp[z9ba]
 ·simp[z9ba]
 ·simp[z9ba]
 ·rw[z9ba]
  have:(es.attach.map fun x:{x//x∈es}=>z9ba x.1).sum=(es.map z9ba).sum:=by rw[List.attach_map_val (l:=es) (f:=z9ba)]
  exact Nat.le_of_eq (by rw[←this])
 ·rw[z9ba]
  have:(ps.attach.map fun x:{x//x∈ps}=>z9ba x.1).sum=(ps.map z9ba).sum:=by rw[List.attach_map_val (l:=ps) (f:=z9ba)]
  exact Nat.le_trans (Nat.le_of_eq this.symm) (Nat.le_succ _)
end Go.Abs
end

section
namespace Go.Abs
section
variable {H : Type} {enc : TypeId × Value → H} {P : Program} {W W' : World}
end
end Go.Abs
end

section
namespace Go.Abs
theorem z5i {P:Nat×Bool→Prop} {l m:List (Nat×Bool)} (h:l.all (fun p=>m.contains p)=true) (hm:∀p∈m,P p):∀p∈l,P p:=fun p hp=>by
 have:=List.all_eq_true.1 h p hp
 exact hm p (by simpa using this)
end Go.Abs
end

section
namespace Go.Abs
def z3M (b:List UInt8):List UInt8:=b++z8Sa (UInt64.ofNat b.length)
theorem z0ib (n:UInt64):(z8Sa n).length=z1xa n.toNat+9:=by simp[z8Sa,z3la]
theorem z5la {b:List UInt8} (h:b.length<1099511627776):(z3M b).length% 64=0∧b.length<(z3M b).length∧(z3M b).length≤b.length+128:=by
 have hn:(UInt64.ofNat b.length).toNat=b.length:=by rw[UInt64.toNat_ofNat'];omega
 have h1:=z7Ua b.length
 have h2:=z2Wa b.length
 simp only[z3M,List.length_append,z0ib,hn]
 omega
def blk (m:List UInt8) (s:H8):Nat→H8
 |0=>s
 |k+1=>z3Pa (blk m s k) ((m.drop (64*k)).take 64)
theorem z4Aa (m:List UInt8):∀k,64*k≤m.length→64*k<1099511627776→(z2z.init.add (m.take (64*k))).h=blk m iv k
 |0,_,_=>by simp[z2z.add,blk,z2z.init]
 |k+1,h,h'=>by
  have ih:=z4Aa m k (by omega) (by omega)
  have hb:=z75a (m.take (64*k))
  have hn:(z2z.init.add (m.take (64*k))).n.toNat=64*k:=by
   have e:z2z.init.n.toNat=0:=rfl
   rw[z9Na _ _ (by rw[e];simp;omega),e,List.length_take]
   omega
  have h64:(z2z.init.add (m.take (64*k))).n.toNat% 64=0:=by rw[hn];omega
  rw[show 64*(k+1)=64*k+64 by omega,List.take_add,z43,z3ta _ hb 64 _ (by simp;omega) (by omega)]
  simp only[h64,Nat.zero_add,if_true,List.take_zero,List.nil_append,ih,blk]
  have hd:List.drop 64 (z2z.init.add (m.take (64*k))).b=[]:=List.drop_of_length_le (by omega)
  rw[hd,List.append_nil]
theorem z0fb {b:List UInt8} (h:b.length<1099511000000):sha b=z48a (blk (z3M b) iv ((z3M b).length/64)) 32:=by
 obtain⟨h1,h2,h3⟩:=z5la (b:=b) (by omega)
 have e:=z4Aa (z3M b) ((z3M b).length/64) (by omega) (by omega)
 rw[show 64*((z3M b).length/64)=(z3M b).length by omega,List.take_length] at e
 have hn:(z2z.init.add b).n=UInt64.ofNat b.length:=by rw[z5yc];exact UInt64.zero_add _
 rw[←e,sha,z2z.sum,z3M,z43,hn]
def few (l:List (List UInt8)):Bool:=decide (l.length≤12)&&l.all fun s=>decide (s.length≤400)
def z1Ga:z5a:=⟨fun ds=>∃x n,0≤n∧n≤32∧ds=[u32 x,i64 n],fun ds=>u32 (z1U (z8Ob (nth ds 0)) (asI (nth ds 1)).toNat)⟩
def z27:z5a:=⟨fun ds=>∃(nl:Option Bool) (b:List UInt8),b.length<1099511000000∧ds=[.sl .plain nl b.length (bys b)],fun ds=> .sl (.own 1) (some false) (z3M (gBs (gCs (nth ds 0)))).length (bys (z3M (gBs (gCs (nth ds 0)))))⟩
def fewC:z5a:=⟨fun ds=>∃(nl:Option Bool) (l:List (List UInt8)),ds=[.sl .plain nl l.length (sts l)],fun ds=>bo (few (gSs (gCs (nth ds 0))))⟩
def z7pc:z5a:=⟨fun ds=>∃(nl:Option Bool) (l:List (List UInt8)),z8ea l<1099511000000∧ds=[.sl .plain nl l.length (sts l)],fun ds=>st (gSs (gCs (nth ds 0))).flatten⟩
def z1lb:z5a:=⟨fun ds=>∃h:List UInt8,h.length=32∧ds=[.agg (bys h)],fun ds=>st (gBs (gCs (nth ds 0)))⟩
def z2kb:z5a:=⟨fun ds=>∃h:List UInt8,h.length=16∧ds=[.agg (bys h)],fun ds=>st (gBs (gCs (nth ds 0)))⟩
def z4rc:z5a:=⟨fun ds=>∃(k:List UInt8) (w:UInt8),k.length<1099511000000∧ds=[st k,u8 w],fun ds=> .sl (.own 1) none 64 (bys (z3Lb (z3Bb (gS (nth ds 0))) (gU8 (nth ds 1))))⟩
def z8Oa:z5a:=⟨fun ds=>∃(nl:Option Bool) (l:List UInt8),l.length<1099511000000∧ds=[.sl .plain nl l.length (bys l)],fun ds=> .agg (bys (sha (gBs (gCs (nth ds 0)))))⟩
def z1yc:z5a:=⟨fun ds=>∃key text:List UInt8,key.length<1099511000000∧text.length<1099510000000∧ds=[st key,st text],fun ds=>st (mac (gS (nth ds 0)) (gS (nth ds 1)))⟩
def z5ma:z5a:=⟨fun ds=>∃(nl:Option Bool) (l:List UInt8),l.length<1099511000000∧ds=[.sl .plain nl l.length (bys l)],fun ds=> .agg (bys ((sha (gBs (gCs (nth ds 0)))).take 16))⟩
def z9ma:z5a:=⟨fun ds=>∃(tag:Int) (nl:Option Bool) (l:List (List UInt8)),z8ea l<1099510000000∧ds=[i64 tag,.sl .plain nl l.length (sts l)],
 fun ds=> .sl (.own 1) (some false) (z22 (asI (nth ds 0)) (gSs (gCs (nth ds 1)))).length (bys (z22 (asI (nth ds 0)) (gSs (gCs (nth ds 1)))))⟩
def z2pb:z5a:=⟨fun ds=>∃(tag:Int) (nl:Option Bool) (l:List (List UInt8)),z8ea l<1099510000000∧ds=[i64 tag,.sl .plain nl l.length (sts l)],fun ds=> .agg (bys (z5G (asI (nth ds 0)) (gSs (gCs (nth ds 1)))))⟩
def z8xa:z5a:=⟨fun ds=>∃n,z2l n∧ds=[i64 n],fun ds=> .sl (.own 1) none (z1t (asI (nth ds 0))).length (bys (z1t (asI (nth ds 0))))⟩
def z54:z5a:=⟨fun ds=>∃s:List UInt8,s.length≤1099511000000∧ds=[st s],fun ds=> .sl (.own 1) none (z3U (gS (nth ds 0))).length (bys (z3U (gS (nth ds 0))))⟩
theorem z6Za {x:UInt32} {n:Int} (h0:0≤n) (h1:n≤32):z1Ga.pre [u32 x,i64 n]=True:=eq_true ⟨x,n,h0,h1,rfl⟩
@[simp] theorem z7Ac (x:UInt32) (n:Int):z1Ga.post [u32 x,i64 n]=u32 (z1U x n.toNat):=by simp[z1Ga]
theorem z4kb {b:List UInt8} {nl:Option Bool} {n:Nat} (hn:n=64) (h:b.length=64):z0S.pre [.sl .plain nl n (bys b)]=True:=eq_true ⟨nl,b,h,by rw[hn]⟩
@[simp] theorem z6kc (b:List UInt8) (nl:Option Bool) (n:Nat):z0S.post [.sl .plain nl n (bys b)]= .agg (z2p (z3k b 64)):=by simp[z0S]
theorem z29a {b:List UInt8} {nl:Option Bool} {n:Nat} (hn:n=b.length) (h:b.length<1099511000000):z27.pre [.sl .plain nl n (bys b)]=True:=eq_true ⟨nl,b,h,by rw[hn]⟩
@[simp] theorem z56b (b:List UInt8) (nl:Option Bool) (n:Nat):z27.post [.sl .plain nl n (bys b)]= .sl (.own 1) (some false) (z3M b).length (bys (z3M b)):=by simp[z27]
@[simp] theorem z0Mc (l:List (List UInt8)) (nl:Option Bool) (n:Nat):fewC.post [.sl .plain nl n (sts l)]=bo (few l):=by simp[fewC]
@[simp] theorem z0mc (l:List (List UInt8)) (nl:Option Bool) (n:Nat):z7pc.post [.sl .plain nl n (sts l)]=st l.flatten:=by simp[z7pc]
@[simp] theorem z6Yb (h:List UInt8):z1lb.post [.agg (bys h)]=st h:=by simp[z1lb]
@[simp] theorem z4Wb (h:List UInt8):z2kb.post [.agg (bys h)]=st h:=by simp[z2kb]
@[simp] theorem z0nc (k:List UInt8) (w:UInt8):z4rc.post [st k,u8 w]= .sl (.own 1) none 64 (bys (z3Lb (z3Bb k) w)):=by simp[z4rc]
theorem z2Fb {l:List UInt8} {nl:Option Bool} {n:Nat} (hn:n=l.length) (h:l.length<1099511000000):z8Oa.pre [.sl .plain nl n (bys l)]=True:=eq_true ⟨nl,l,h,by rw[hn]⟩
@[simp] theorem z9sc (l:List UInt8) (nl:Option Bool) (n:Nat):z8Oa.post [.sl .plain nl n (bys l)]= .agg (bys (sha l)):=by simp[z8Oa]
@[simp] theorem z4Ic (k m:List UInt8):z1yc.post [st k,st m]=st (mac k m):=by simp[z1yc]
theorem z6bb {l:List UInt8} {nl:Option Bool} {n:Nat} (hn:n=l.length) (h:l.length<1099511000000):z5ma.pre [.sl .plain nl n (bys l)]=True:=eq_true ⟨nl,l,h,by rw[hn]⟩
@[simp] theorem z0cc (l:List UInt8) (nl:Option Bool) (n:Nat):z5ma.post [.sl .plain nl n (bys l)]= .agg (bys ((sha l).take 16)):=by simp[z5ma]
theorem z1mb {tag:Int} {nl:Option Bool} {n:Nat} {l:List (List UInt8)} (hn:n=l.length) (h:z8ea l<1099510000000):z9ma.pre [i64 tag,.sl .plain nl n (sts l)]=True:=eq_true ⟨tag,nl,l,h,by rw[hn]⟩
@[simp] theorem z3cc (tag:Int) (nl:Option Bool) (n:Nat) (l:List (List UInt8)):z9ma.post [i64 tag,.sl .plain nl n (sts l)]= .sl (.own 1) (some false) (z22 tag l).length (bys (z22 tag l)):=by simp[z9ma]
theorem z0Ub {tag:Int} {nl:Option Bool} {n:Nat} {l:List (List UInt8)} (hn:n=l.length) (h:z8ea l<1099510000000):z2pb.pre [i64 tag,.sl .plain nl n (sts l)]=True:=eq_true ⟨tag,nl,l,h,by rw[hn]⟩
@[simp] theorem z14a (tag:Int) (nl:Option Bool) (n:Nat) (l:List (List UInt8)):z2pb.post [i64 tag,.sl .plain nl n (sts l)]= .agg (bys (z5G tag l)):=by simp[z2pb]
theorem z9oa {n:Int} (h0: -9223372036854775808≤n) (h1:n≤9223372036854775807):z8xa.pre [i64 n]=True:=eq_true ⟨n,⟨h0,h1⟩,rfl⟩
@[simp] theorem z9kc (n:Int):z8xa.post [i64 n]= .sl (.own 1) none (z1t n).length (bys (z1t n)):=by simp[z8xa]
theorem z8ya {s:List UInt8} (h:s.length≤1099511000000):z54.pre [st s]=True:=eq_true ⟨s,h,rfl⟩
@[simp] theorem z0bc (s:List UInt8):z54.post [st s]= .sl (.own 1) none (z3U s).length (bys (z3U s)):=by simp[z54]
theorem z8Ba {n:Int} (h0: -9223372036854775808≤n) (h1:n≤9223372036854775807):z99a.pre [i64 n]=True:=eq_true ⟨n,⟨h0,h1⟩,rfl⟩
@[simp] theorem z2Wc (n:Int):z99a.post [i64 n]= .sl (.own 1) (some false) (z1t n).length (bys (z1t n)):=by simp[z99a]
end Go.Abs
end

section
namespace Go.Abs
def dig (c:UInt8):UInt8:=at8 [48,49,50,51,52,53,54,55,56,57,97,98,99,100,101,102] c.toNat
def z3mc (s:List UInt8):List UInt8:=s.flatMap fun c=>[dig (c/16),dig (c% 16)]
def hexC:z5a:=⟨fun ds=>∃s:List UInt8,s.length<1000000000∧ds=[st s],fun ds=>st (z3mc (gS (nth ds 0)))⟩
def z15c (pre:List z2a→Prop):z5a:=⟨pre,fun _=>bo true⟩
def z68b:z5a:=z15c fun ds=>ds=[]
@[simp] theorem z1Oc (s:List UInt8):hexC.post [st s]=st (z3mc s):=by simp[hexC]
@[simp] theorem z6Zc:z68b.pre []=True:=eq_true rfl
@[simp] theorem z1Tc (ds:List z2a):z68b.post ds=bo true:=rfl
@[simp] theorem z7kc (a b:List UInt8):z5Ob.post [st a,st b]=bo (a==b):=by simp[z5Ob]
end Go.Abs
end

section
namespace Go.Abs
def z24a:List UInt8→Nat
 |[]=>0
 |d::l=>d.toNat+256*z24a l
theorem z1Cb {n:Int} {k:Nat} (hk:k≤8):(flp n (UInt8.ofNat (128+k))).toNat=if n<0 then 127-k else 128+k:=by
 have h:(UInt8.ofNat (128+k)).toNat=128+k:=by rw[UInt8.toNat_ofNat'];omega
 unfold flp
 split
 ·rw[UInt8.toNat_sub,h,show(255:UInt8).toNat=255 from rfl]
  omega
 ·exact h
end Go.Abs
end

section
namespace Go.Abs
def fl (h c:UInt8):UInt8:=if h<128 then 255-c else c
def kOf (h:UInt8):Nat:=(fl h h).toNat-128
def z8ia (l:List UInt8):Nat:=l.foldl (fun a c=>256*a+c.toNat) 0
def z6l:List UInt8→Int×Nat×Nat
 |[]=>(0,0,5)
 |h::t=>
  if 8<kOf h then(0,0,6) else if t.length<kOf h then(0,0,5)
  else if 0<kOf h∧fl h (at8 t 0)=0 then(0,0,6)
  else if 2^63≤z8ia ((t.take (kOf h)).map (fl h)) then(0,0,6)
  else(if h<128 then-1-(z8ia ((t.take (kOf h)).map (fl h)):Int) else z8ia ((t.take (kOf h)).map (fl h)),kOf h+1,0)

theorem z39a (h:UInt8):h<128↔h.toNat<128:=UInt8.lt_iff_toNat_lt
theorem z34a (c:UInt8):(255-c).toNat=255-c.toNat:=by
 have:=c.toNat_lt
 have h:(255:UInt8).toNat=255:=rfl
 rw[UInt8.toNat_sub,h];omega
theorem z6Ua (h:UInt8):kOf h=if h.toNat<128 then 127-h.toNat else h.toNat-128:=by
 unfold kOf fl
 by_cases hh:h<128
 ·rw[if_pos hh,if_pos ((z39a h).1 hh),z34a];have:=(z39a h).1 hh;omega
 ·rw[if_neg hh,if_neg (fun e=>hh ((z39a h).2 e))]
theorem z5Ka (l:List UInt8) (c:UInt8):z8ia (l++[c])=256*z8ia l+c.toNat:=by simp[z8ia]
theorem z70a:∀l:List UInt8,z8ia l.reverse=z24a l
 |[]=>rfl
 |x::l=>by rw[List.reverse_cons,z5Ka,z70a l,z24a];omega
theorem z2qb (l:List UInt8):z8ia l=z24a l.reverse:=by rw[←z70a,List.reverse_reverse]
theorem z8jb:∀l:List UInt8,z24a l<256^l.length
 |[]=>by simp[z24a]
 |x::l=>by
  have:=z8jb l
  have hx:=x.toNat_lt
  rw[z24a,List.length_cons,Nat.pow_succ]
  omega
theorem z50b (l:List UInt8):z8ia l<256^l.length:=by rw[z2qb];have:=z8jb l.reverse;rwa[List.length_reverse] at this
theorem z8Ia:∀l:List UInt8,(∀c,l.getLast? =some c→c≠0)→z0fa (z24a l)=l
 |[],_=>by simp[z24a,z0B]
 |[x],h=>by
  have hx:x≠0:=h x rfl
  have hx':x.toNat≠0:=fun e=>hx (UInt8.toNat_inj.1 e)
  have:=x.toNat_lt
  simp only[z24a]
  rw[z5Q (by omega),show(x.toNat+256*0)/256=0 by omega,z0B]
  congr 1
  apply UInt8.toNat_inj.1
  rw[UInt8.toNat_ofNat'];omega
 |x::y::l,h=>by
  have ih:=z8Ia (y::l) (fun c hc=>h c (by simpa[List.getLast?_cons_cons] using hc))
  have hne:z24a (y::l)≠0:=fun e=>by rw[e,z0B] at ih;cases ih
  have:=x.toNat_lt
  rw[z24a,z5Q (by omega),show(x.toNat+256*z24a (y::l))/256=z24a (y::l) by omega,ih]
  congr 1
  apply UInt8.toNat_inj.1
  rw[UInt8.toNat_ofNat'];omega
theorem z7jb {l:List UInt8} (h:l=[]∨at8 l 0≠0):(z0fa (z8ia l)).reverse=l:=by
 rw[z2qb,z8Ia,List.reverse_reverse]
 intro c hc
 rw[List.getLast?_reverse] at hc
 cases l with
 |nil=>simp at hc
 |cons x l=>
  simp only[List.head?_cons,Option.some.injEq] at hc
  subst hc
  simpa using h
theorem z9ta {b:List UInt8} {n:Int} {u:Nat} (h:z6l b=(n,u,0)):z2l n∧u≤b.length∧b.take u=z1t n∧u=(z1t n).length:=by
 cases b with
 |nil=>simp[z6l] at h
 |cons x t=>
  rw[z6l] at h
  split at h
  ·simp at h
  ·rename_i h8
   split at h
   ·simp at h
   ·rename_i hl
    split at h
    ·simp at h
    ·rename_i hz
     split at h
     ·simp at h
     ·rename_i hm
      simp only[Prod.mk.injEq,and_true] at h
      obtain⟨hn,hu⟩:=h
      generalize hds:(t.take (kOf x)).map (fl x)=ds at hm hn
      have hdl:ds.length=kOf x:=by rw[←hds];simp;omega
      have hcan:ds=[]∨at8 ds 0≠0:=by
       cases hd:ds with
       |nil=>exact .inl rfl
       |cons y l=>
        right
        have hp:0<kOf x:=by rw[←hdl,hd];simp
        intro e
        apply hz
        refine⟨hp,?_⟩
        rw[hd] at hds
        cases t with
        |nil=>simp at hl;omega
        |cons z t=>
         obtain⟨k,hk⟩:∃k,kOf x=k+1:=⟨kOf x-1,by omega⟩
         rw[hk,List.take_succ_cons,List.map_cons] at hds
         simp only[List.cons.injEq] at hds
         simp only[z4sb] at e⊢
         rw[hds.1,e]
      have hrev:=z7jb hcan
      have hmag:mag n=z8ia ds:=by
       subst hn
       unfold mag
       split<;>split<;>omega
      have hneg:n<0↔x<128:=by
       subst hn
       split<;>rename_i hx<;>simp[hx]<;>omega
      have hI:z2l n:=by
       subst hn
       unfold z2l
       split<;>omega
      have hk:kOf x≤8:=by omega
      have henc:z1t n=x::t.take (kOf x):=by
       unfold z1t
       rw[hmag,hrev]
       have e1:(z0fa (z8ia ds)).length=kOf x:=by rw[←List.length_reverse,hrev,hdl]
       rw[e1,List.cons.injEq]
       refine⟨?_,?_⟩
       ·apply UInt8.toNat_inj.1
        rw[z1Cb hk,z6Ua]
        have:=x.toNat_lt
        rw[z6Ua] at hk
        have hx:=z39a x
        by_cases hh:x.toNat<128
        ·rw[if_pos (hneg.2 (hx.2 hh)),if_pos hh];omega
        ·rw[if_neg (fun e=>hh (hx.1 (hneg.1 e))),if_neg hh];omega
       ·rw[←hds,List.map_map,show(flp n∘fl x)=id from funext fun c=>by
         simp only[Function.comp,flp,fl,id]
         by_cases hx:x<128
         ·rw[if_pos (hneg.2 hx),if_pos hx]
          apply UInt8.toNat_inj.1
          rw[z34a,z34a];have:=c.toNat_lt;omega
         ·rw[if_neg (fun e=>hx (hneg.1 e)),if_neg hx]]
        simp
      refine⟨hI,?_,?_,?_⟩
      ·rw[←hu,List.length_cons];omega
      ·rw[henc,←hu,List.take_succ_cons]
      ·rw[henc,←hu,List.length_cons,List.length_take];omega

theorem z6Da (b:List UInt8):(∃n u,z6l b=(n,u,0))∨z6l b=(0,0,5)∨z6l b=(0,0,6):=by
 cases b with
 |nil=>simp[z6l]
 |cons x t=>
  rw[z6l]
  split
  ·simp
  ·split
   ·simp
   ·split
    ·simp
    ·split
     ·simp
     ·exact .inl ⟨_,_,rfl⟩
end Go.Abs
end

section
namespace Go.Abs
def tri (v:z2a) (n e:Nat):z2a:= .tup [v,i64 n,i64 e]
@[simp] theorem z26c (v:z2a) (n e:Nat):dem (tri v n e)=tri v n e:=rfl
@[simp] theorem z9Fc (v:z2a) (n e:Nat):z6f (tri v n e)=z6f v:=by simp[tri,z2h]
theorem z3p (v:z2a) (n e:Nat):tri v n e= .tup [v,i64 n,i64 e]:=rfl
def onB (f:List UInt8→z2a):z5a:=⟨fun ds=>∃nl b,b.length≤1000000000∧ds=[.sl .plain nl b.length (bys b)],fun ds=>f (gBs (gCs (nth ds 0)))⟩
theorem z5ea {f:List UInt8→z2a} {nl:Option Bool} {n:Nat} {b:List UInt8} (h:b.length≤1000000000) (hn:n=b.length):(onB f).pre [.sl .plain nl n (bys b)]=True:=by
 subst hn;exact eq_true ⟨nl,b,h,rfl⟩
@[simp] theorem z7Da (f:List UInt8→z2a) (m:z0ea) (nl:Option Bool) (n:Nat) (b:List UInt8):(onB f).post [.sl m nl n (bys b)]=f b:=by simp[onB]
def vI (b:List UInt8):z2a:=tri (i64 (z6l b).1) (z6l b).2.1 (z6l b).2.2
def z7K:z5a:=onB vI

theorem z17 (h:UInt8) (t:List UInt8):z6l (h::t)=if 8<kOf h then(0,0,6) else if t.length<kOf h then(0,0,5)
  else if 0<kOf h∧fl h (at8 t 0)=0 then(0,0,6)
  else if 2^63≤z8ia ((t.take (kOf h)).map (fl h)) then(0,0,6)
  else(if h<128 then-1-(z8ia ((t.take (kOf h)).map (fl h)):Int) else z8ia ((t.take (kOf h)).map (fl h)),kOf h+1,0):=rfl
theorem z4Ac (c:UInt8):c^^^255=255-c:=by
 have h:∀n:Fin 256,UInt8.ofNat n.val^^^255=255-UInt8.ofNat n.val:=by decide+kernel
 have:=h ⟨c.toNat,c.toNat_lt⟩
 simpa using this
theorem xor0 (c:UInt8):c^^^0=c:=by simp
theorem z8nb (h c:UInt8):c^^^(if h<128 then 255 else 0)=fl h c:=by
 unfold fl
 split
 ·exact z4Ac c
 ·exact xor0 c
theorem z3tc {m:UInt64} {N:Nat} (hm:m.toNat=N) (hN:N<2^56) (c:UInt8):(z5xb m 8|||c.toUInt64).toNat=256*N+c.toNat:=by
 subst hm
 have hc:=c.toNat_lt
 rw[UInt64.toNat_or]
 show((m.toBitVec<<<8).toNat|||c.toUInt64.toNat)=_
 rw[BitVec.toNat_shiftLeft,UInt8.toNat_toUInt64]
 show(m.toNat<<<8% 2^64|||c.toNat)=_
 rw[Nat.mod_eq_of_lt (by rw[Nat.shiftLeft_eq];omega),←Nat.shiftLeft_add_eq_or_of_lt (by omega),Nat.shiftLeft_eq]
 omega
theorem z2ob {l:List UInt8} {i:Nat} (h:i<l.length):z8ia (l.take (i+1))=256*z8ia (l.take i)+(at8 l i).toNat:=by
 rw[List.take_succ_eq_append_getElem h,z5Ka]
 simp[at8,List.getD,List.getElem?_eq_getElem h]
theorem z7na (l:List UInt8) (i k:Nat) (h:i≤k):z8ia (l.take i)<256^k:=
 Nat.lt_of_lt_of_le (z50b _) (Nat.pow_le_pow_right (by decide) (by rw[List.length_take];omega))
theorem z5tc {h:UInt8} {t:List UInt8} (h1:8<kOf h):z6l (h::t)=(0,0,6):=by rw[z17,if_pos h1]
theorem z3xc {h:UInt8} {t:List UInt8} (h1:¬8<kOf h) (h2:t.length<kOf h):z6l (h::t)=(0,0,5):=by rw[z17,if_neg h1,if_pos h2]
theorem z6pc {h:UInt8} {t:List UInt8} (h1:¬8<kOf h) (h2:¬t.length<kOf h) (h3:0<kOf h∧fl h (at8 t 0)=0):z6l (h::t)=(0,0,6):=by rw[z17,if_neg h1,if_neg h2,if_pos h3]
theorem z4Hc {h:UInt8} {t:List UInt8} (h1:¬8<kOf h) (h2:¬t.length<kOf h) (h4:2^63≤z8ia ((t.take (kOf h)).map (fl h))):z6l (h::t)=(0,0,6):=by
 rw[z17,if_neg h1,if_neg h2,if_pos h4,ite_self]
theorem z9Ac {h:UInt8} {t:List UInt8} (h1:¬8<kOf h) (h2:¬t.length<kOf h) (h3:¬(0<kOf h∧fl h (at8 t 0)=0)) (h4:¬2^63≤z8ia ((t.take (kOf h)).map (fl h))):
  z6l (h::t)=(if h<128 then-1-(z8ia ((t.take (kOf h)).map (fl h)):Int) else z8ia ((t.take (kOf h)).map (fl h)),kOf h+1,0):=by rw[z17,if_neg h1,if_neg h2,if_neg h3,if_neg h4]

def z0qc:z5a:=⟨fun ds=>∃nl nl' a b,a.length≤1000000000∧ds=[.sl .plain nl a.length (bys a),.sl .plain nl' b.length (bys b)],fun ds=>bo (gBs (gCs (nth ds 0))==gBs (gCs (nth ds 1)))⟩
@[simp] theorem z8Ac (m m':z0ea) (nl nl':Option Bool) (n k:Nat) (a b:List UInt8):z0qc.post [.sl m nl n (bys a),.sl m' nl' k (bys b)]=bo (a==b):=by simp[z0qc]
def z6Ra (b:List UInt8) (s:Nat):Nat:=if(z6l b).2.2≠0 then(z6l b).2.2 else if(z6l b).1<0 then 6 else if(b.length-(z6l b).2.1)/s<(z6l b).1.toNat then 5 else 0
def onC (f:List UInt8→Nat→z2a):z5a:=⟨fun ds=>∃nl b,∃s:Nat,b.length≤1000000000∧0<s∧s≤1000∧ds=[.sl .plain nl b.length (bys b),i64 s],fun ds=>f (gBs (gCs (nth ds 0))) (asI (nth ds 1)).toNat⟩
theorem z0la {f:List UInt8→Nat→z2a} {nl:Option Bool} {n:Nat} {b:List UInt8} {s:Int} (h:b.length≤1000000000) (hn:n=b.length) (h0:0<s) (h1:s≤1000):(onC f).pre [.sl .plain nl n (bys b),i64 s]=True:=by
 subst hn;exact eq_true ⟨nl,b,s.toNat,h,by omega,by omega,by rw[show((s.toNat:Nat):Int)=s by omega]⟩
@[simp] theorem z5yb (f:List UInt8→Nat→z2a) (m:z0ea) (nl:Option Bool) (n:Nat) (b:List UInt8) (s:Int):(onC f).post [.sl m nl n (bys b),i64 s]=f b s.toNat:=by simp[onC]
def z37a:z5a:=onC fun b s=>tri (i64 (z6l b).1) (z6l b).2.1 (z6Ra b s)
theorem z3ga (b:List UInt8) (s:Nat) (hs:0<s):(z6Ra b s=5∨z6Ra b s=6)∨(z6Ra b s=0∧∃n u:Nat,z6l b=((n:Int),u,0)∧u≤b.length∧n*s≤b.length-u∧u≤9):=by
 unfold z6Ra
 rcases z6Da b with⟨n,u,h⟩|h|h<;>rw[h]<;>simp only[ne_eq,not_true_eq_false,if_false,reduceCtorEq,not_false_eq_true,if_true]
 ·by_cases hn:n<0
  ·simp[hn]
  ·rw[if_neg hn]
   split
   ·simp
   ·rename_i hd
    obtain⟨h1,h2,h3,h4⟩:=z9ta h
    have:=z4l h1
    refine .inr ⟨rfl,n.toNat,u,by rw[show((n.toNat:Nat):Int)=n by omega],h2,?_,by omega⟩
    have:=(Nat.le_div_iff_mul_le hs).1 (Nat.not_lt.1 hd)
    exact this
 all_goals simp
def z9ea (b:List UInt8):List UInt8×Nat×Nat:=if z6Ra b 1=0 then((b.drop (z6l b).2.1).take (z6l b).1.toNat,(z6l b).2.1+(z6l b).1.toNat,0) else([],0,z6Ra b 1)
def z0T:z5a:=onB fun b=>tri (st (z9ea b).1) (z9ea b).2.1 (z9ea b).2.2
def z4aa {α:Type} (f:List UInt8→α×Nat×Nat):Nat→List UInt8→Nat→List α×Nat×Nat
 |0,_,at'=>([],at',0)
 |n+1,b,at'=>if(f (b.drop at')).2.2≠0 then([],0,(f (b.drop at')).2.2)
  else if(z4aa f n b (at'+(f (b.drop at')).2.1)).2.2≠0 then([],0,(z4aa f n b (at'+(f (b.drop at')).2.1)).2.2)
  else((f (b.drop at')).1::(z4aa f n b (at'+(f (b.drop at')).2.1)).1,(z4aa f n b (at'+(f (b.drop at')).2.1)).2.1,0)
def z5x {α:Type} (f:List UInt8→α×Nat×Nat) (s:Nat) (b:List UInt8):List α×Nat×Nat:=if z6Ra b s=0 then z4aa f (z6l b).1.toNat b (z6l b).2.1 else([],0,z6Ra b s)

/-! ### Lists of whole numbers as cells -/
def z4j (l:List Int):List z2a:=l.map i64
def atI (l:List Int) (i:Nat):Int:=l.getD i 0
def gIs (l:List z2a):List Int:=l.map asI
@[simp] theorem z2Wb (l:List Int):(z4j l).length=l.length:=by simp[z4j]
@[simp] theorem z9Rc:z4j []=[]:=rfl
theorem z7ib (x:Int) (l:List Int):z4j (x::l)=i64 x::z4j l:=rfl
theorem z3ib (l:List Int) (x:Int):z4j l++[i64 x]=z4j (l++[x]):=by simp[z4j]
@[simp] theorem z1wc (l:List Int) (n:Nat):(z4j l).take n=z4j (l.take n):=by simp[z4j]
@[simp] theorem z5Ic (l:List Int) (n:Nat):(z4j l).drop n=z4j (l.drop n):=by simp[z4j]
@[simp] theorem z72a (l:List Int):gIs (z4j l)=l:=by simp[gIs,z4j,Function.comp_def]
theorem z1ea {l:List Int} {n:Nat} (h:n<l.length):hdA (z4j (l.drop n))=i64 (atI l n):=by
 rw[List.drop_eq_getElem_cons h,z7ib]
 simp[atI,List.getD,List.getElem?_eq_getElem h]
theorem z7ga {P:z2a→Prop} {l:List Int} (h:∀x,P (i64 x)):∀c∈z4j l,P c:=fun c hc=>by
 simp only[z4j,List.mem_map] at hc
 obtain⟨x,_,rfl⟩:=hc
 exact h x
@[simp] theorem z3vc (l:List Int):(∀c∈z4j l,z6f c=true)↔True:=iff_true_intro (z7ga (by simp))
@[simp] theorem z8gc (l:List Int):z2h (z4j l)=true:=z5ia (z7ga (by simp))
@[simp] theorem z2wc (l:List Int):(∀c∈z4j l,z2d c)↔True:=iff_true_intro (z7ga (by simp))
@[simp] theorem z0Vc (l:List Int):(∀c∈z4j l,z1f c=false)↔True:=iff_true_intro (z7ga (by simp))
@[simp] theorem z0rb (l:List Int):(∀c∈z4j l,z6f c=true∧z2d c)↔True:=iff_true_intro (z7ga (by simp))
@[simp] theorem z0fc (l:List Int):z7g (z4j l)=[]:=by induction l<;>simp_all [z4j]

def z6ka:CM:=⟨[],[2,3],fun ds=>∃nl b,∃i:Nat,b.length≤1000000000∧i≤b.length∧ds=[.sl .plain nl b.length (bys b),i64 i],fun _=> .fn 61 [] [.bp 2 0,.bp 3 0],fun ds j=>if j=2 then [nth ds 0] else [nth ds 1]⟩
def z1Yb (ds:List z2a):List UInt8:=gBs (gCs (hdA (gCs (nth ds 0))))
def z8yb (ds:List z2a):Nat:=(asI (hdA (gCs (nth ds 1)))).toNat
def z9da:CM:=⟨[0,1],[],fun ds=>∃nl b,∃i:Nat,b.length≤1000000000∧i≤b.length∧ds=[.ep [.sl .plain nl b.length (bys b)],.ep [i64 i]],
 fun ds=>tri (i64 (z6l ((z1Yb ds).drop (z8yb ds))).1) (z8yb ds+(z6l ((z1Yb ds).drop (z8yb ds))).2.1) (z6l ((z1Yb ds).drop (z8yb ds))).2.2,
 fun ds j=>if j=0 then [hdA (gCs (nth ds 0))] else [i64 ((z8yb ds+(z6l ((z1Yb ds).drop (z8yb ds))).2.1:Nat):Int)]⟩
theorem z4ia (b:List UInt8):(z6l b).2.1≤b.length∧(z6l b).2.1≤9∧z2l (z6l b).1:=by
 rcases z6Da b with⟨n,u,h⟩|h|h
 ·obtain⟨h1,h2,h3,h4⟩:=z9ta h
  rw[h]
  exact⟨h2,by have:=z4l h1;simp only;omega,h1⟩
 all_goals rw[h];exact⟨by simp,by simp,by unfold z2l;decide⟩
@[simp] theorem z62c:z6ka.bx=[]:=rfl
@[simp] theorem z3Yc:z6ka.nb=[2,3]:=rfl
theorem z8Db {nl:Option Bool} {n:Nat} {b:List UInt8} {i:Int} (h:b.length≤1000000000) (hn:n=b.length) (h0:0≤i) (h1:i≤b.length):z6ka.pre [.sl .plain nl n (bys b),i64 i]=True:=by
 subst hn;exact eq_true ⟨nl,b,i.toNat,h,by omega,by rw[show((i.toNat:Nat):Int)=i by omega]⟩
@[simp] theorem z8qc (ds:List z2a):z6ka.post ds= .fn 61 [] [.bp 2 0,.bp 3 0]:=rfl
@[simp] theorem z1Gc (x y:z2a):z6ka.out [x,y] 2=[x]:=rfl
@[simp] theorem z3Hc (x y:z2a):z6ka.out [x,y] 3=[y]:=rfl
@[simp] theorem z85c:z9da.bx=[0,1]:=rfl
@[simp] theorem z47c:z9da.nb=[]:=rfl
theorem z3Hb {nl:Option Bool} {n:Nat} {b:List UInt8} {i:Int} (h:b.length≤1000000000) (hn:n=b.length) (h0:0≤i) (h1:i≤b.length):z9da.pre [.ep [.sl .plain nl n (bys b)],.ep [i64 i]]=True:=by
 subst hn;exact eq_true ⟨nl,b,i.toNat,h,by omega,by rw[show((i.toNat:Nat):Int)=i by omega]⟩
@[simp] theorem z1lc (m:z0ea) (nl:Option Bool) (n:Nat) (b:List UInt8) (i:Int):z9da.post [.ep [.sl m nl n (bys b)],.ep [i64 i]]=tri (i64 (z6l (b.drop i.toNat)).1) (i.toNat+(z6l (b.drop i.toNat)).2.1) (z6l (b.drop i.toNat)).2.2:=by simp[z9da,z1Yb,z8yb]
@[simp] theorem z7Hc (x:z2a) (y:z2a):z9da.out [.ep [x],y] 0=[x]:=rfl
@[simp] theorem z7Bc (m:z0ea) (nl:Option Bool) (n:Nat) (b:List UInt8) (i:Int):z9da.out [.ep [.sl m nl n (bys b)],.ep [i64 i]] 1=[i64 ((i.toNat+(z6l (b.drop i.toNat)).2.1:Nat):Int)]:=by simp[z9da,z1Yb,z8yb]

/-! ### So many elements, one after the other -/
def pre {α:Type} (out:List α) (r:List α×Nat×Nat):List α×Nat×Nat:=if r.2.2≠0 then([],0,r.2.2) else(out++r.1,r.2.1,0)
theorem z4xb {α:Type} (f:List UInt8→α×Nat×Nat):∀(n:Nat) (b:List UInt8) (i:Nat),(z4aa f n b i).2.2=0∨z4aa f n b i=([],0,(z4aa f n b i).2.2)
 |0,b,i=> .inl rfl
 |n+1,b,i=>by
  rw[z4aa]
  split
  ·exact .inr rfl
  ·split
   ·exact .inr rfl
   ·exact .inl rfl
theorem z5ac {α:Type} (f:List UInt8→α×Nat×Nat) (n:Nat) (b:List UInt8) (i:Nat):pre [] (z4aa f n b i)=z4aa f n b i:=by
 unfold pre
 rcases z4xb f n b i with h|h
 ·rw[if_neg (by simpa using h),List.nil_append];exact Prod.ext rfl (Prod.ext rfl h.symm)
 ·by_cases h0:(z4aa f n b i).2.2=0
  ·rw[if_neg (by simpa using h0),List.nil_append];exact Prod.ext rfl (Prod.ext rfl h0.symm)
  ·rw[if_pos h0];exact h.symm
theorem z2xb {α:Type} {f:List UInt8→α×Nat×Nat} {n:Nat} {b:List UInt8} {i:Nat} {out:List α} (h:(f (b.drop i)).2.2=0):pre out (z4aa f (n+1) b i)=pre (out++[(f (b.drop i)).1]) (z4aa f n b (i+(f (b.drop i)).2.1)):=by
 rw[z4aa,if_neg (by simpa using h)]
 generalize z4aa f n b (i+(f (b.drop i)).2.1)=r
 obtain⟨r1,r2,r3⟩:=r
 unfold pre
 cases r3 with
 |zero=>simp
 |succ k=>simp
theorem z4tb {α:Type} {f:List UInt8→α×Nat×Nat} {n:Nat} {b:List UInt8} {i:Nat} {out:List α} (h:(f (b.drop i)).2.2≠0):pre out (z4aa f (n+1) b i)=([],0,(f (b.drop i)).2.2):=by
 rw[z4aa,if_pos h]
 unfold pre
 rw[if_pos h]
theorem z62b {α:Type} (f:List UInt8→α×Nat×Nat) (b:List UInt8) (i:Nat) (out:List α):pre out (z4aa f 0 b i)=(out,i,0):=by simp[pre,z4aa]
def vIs (r:List Int×Nat×Nat):z2a:=tri (.sl .plain none r.1.length (z4j r.1)) r.2.1 r.2.2
def z83:z5a:=onB fun b=>vIs (z5x z6l 1 b)
theorem z9jb (b:List UInt8):(z9ea b).2.1≤b.length∧(z9ea b).1.length≤b.length:=by
 unfold z9ea
 rcases z3ga b 1 (by decide) with(hE|hE)|⟨hE,n,u,hg,hu,hn,hu9⟩
 ·rw[hE];simp
 ·rw[hE];simp
 ·rw[if_pos hE,hg];simp;omega
@[simp] theorem z7Jb (l:List (List UInt8)):z0c (sts l)=true:=by induction l<;>simp_all [sts,z0c,z2f,st]
def z0yc (b:List UInt8):List UInt8×Nat×Nat:=if z6Ra b 16=0 then((b.drop (z6l b).2.1).take ((z6l b).1.toNat*16),(z6l b).2.1+(z6l b).1.toNat*16,0) else([],0,z6Ra b 16)
end Go.Abs
end

section
namespace Go.Abs
def z0q (l:List Int):List UInt8:=z1t l.length++l.flatMap z1t
def z6rc (l:List (List UInt8)):List UInt8:=z1t l.length++l.flatMap z3U
def z3Ec (n:Nat) (d:List UInt8):List UInt8:=z1t n++d
theorem z6Ka {n:Nat} (h:n≤9223372036854775807):z2l (n:Int):=⟨by omega,by omega⟩
theorem z7f:∀{l:List Int},(∀x∈l,z2l x)→(l.flatMap z1t).length≤9*l.length
 |[],_=>by simp
 |x::l,h=>by
  have h1:=z4l (h x (by simp))
  have h2:=z7f (l:=l) fun y hy=>h y (by simp[hy])
  simp only[List.flatMap_cons,List.length_append,List.length_cons]
  omega
theorem z3ka {l:List Int} {i:Nat} (h:i<l.length):atI l i∈l:=by simp[atI,List.getD,List.getElem?_eq_getElem h]
def z5Uc (nf:Option Bool) (l:List UInt8):z2a:= .sl (.own 1) nf l.length (bys l)
def z9tc (f:List Int→z2a):z5a:=⟨fun ds=>∃nl l,l.length≤100000000∧(∀x∈l,z2l x)∧ds=[.sl .plain nl l.length (z4j l)],fun ds=>f (gIs (gCs (nth ds 0)))⟩
theorem z5Ga {f:List Int→z2a} {nl:Option Bool} {n:Nat} {l:List Int} (h:l.length≤100000000) (hl:∀x∈l,z2l x) (hn:n=l.length):(z9tc f).pre [.sl .plain nl n (z4j l)]=True:=by
 subst hn;exact eq_true ⟨nl,l,h,hl,rfl⟩
@[simp] theorem z88 (f:List Int→z2a) (m:z0ea) (nl:Option Bool) (n:Nat) (l:List Int):(z9tc f).post [.sl m nl n (z4j l)]=f l:=by simp[z9tc]
def onSs (f:List (List UInt8)→z2a):z5a:=⟨fun ds=>∃nl l,z8ea l≤1000000000∧ds=[.sl .plain nl l.length (sts l)],fun ds=>f (gSs (gCs (nth ds 0)))⟩
@[simp] theorem z1zc (f:List (List UInt8)→z2a) (m:z0ea) (nl:Option Bool) (n:Nat) (l:List (List UInt8)):(onSs f).post [.sl m nl n (sts l)]=f l:=by simp[onSs]
def onDs (f:Nat→List UInt8→z2a):z5a:=⟨fun ds=>∃nl n d,n≤10000000∧d.length=n*16∧ds=[.sl .plain nl n (bys d)],fun ds=>f (z5t (nth ds 0)) (gBs (gCs (nth ds 0)))⟩
@[simp] theorem z6vc (f:Nat→List UInt8→z2a) (m:z0ea) (nl:Option Bool) (n:Nat) (d:List UInt8):(onDs f).post [.sl m nl n (bys d)]=f n d:=by simp[onDs]
def z6G:z5a:=z9tc fun l=>z5Uc (some false) (z0q l)
def z6fa:z5a:=z9tc fun l=>z5Uc none (z0q l)
def z85:z5a:=⟨fun ds=>∃nl nl' a b,a.length≤1000000000∧ds=[.sl .plain nl a.length (z4j a),.sl .plain nl' b.length (z4j b)],fun ds=>bo (gIs (gCs (nth ds 0))==gIs (gCs (nth ds 1)))⟩
theorem z5Ha {nl nl':Option Bool} {n m:Nat} {a b:List Int} (h:a.length≤1000000000) (hn:n=a.length) (hm:m=b.length):z85.pre [.sl .plain nl n (z4j a),.sl .plain nl' m (z4j b)]=True:=by
 subst hn;subst hm;exact eq_true ⟨nl,nl',a,b,h,rfl⟩
@[simp] theorem z0ec (m m':z0ea) (nl nl':Option Bool) (n k:Nat) (a b:List Int):z85.post [.sl m nl n (z4j a),.sl m' nl' k (z4j b)]=bo (a==b):=by simp[z85]
def z8Jb:z5a:=⟨fun ds=>∃nl nl' a b,a.length≤1000000000∧ds=[.sl .plain nl a.length (sts a),.sl .plain nl' b.length (sts b)],fun ds=>bo (gSs (gCs (nth ds 0))==gSs (gCs (nth ds 1)))⟩
@[simp] theorem z7bc (m m':z0ea) (nl nl':Option Bool) (n k:Nat) (a b:List (List UInt8)):z8Jb.post [.sl m nl n (sts a),.sl m' nl' k (sts b)]=bo (a==b):=by simp[z8Jb]
def z4Ob:z5a:=⟨fun ds=>∃nl nl' n m a b,n≤10000000∧a.length=n*16∧b.length=m*16∧ds=[.sl .plain nl n (bys a),.sl .plain nl' m (bys b)],fun ds=>bo (gBs (gCs (nth ds 0))==gBs (gCs (nth ds 1)))⟩
@[simp] theorem z4ec (m m':z0ea) (nl nl':Option Bool) (n k:Nat) (a b:List UInt8):z4Ob.post [.sl m nl n (bys a),.sl m' nl' k (bys b)]=bo (a==b):=by simp[z4Ob]
end Go.Abs
end

section
namespace Go.Abs
set_option maxRecDepth 100000
end Go.Abs
end

section
namespace Go.Abs

/-! ### strings.Builder -/
@[simp] theorem z10c (id:Nat) (c x:z2a) (xs:List z2a):z75 0 id c x xs={val:=i64 (z5t c)}:=rfl
@[simp] theorem z50c (id:Nat) (c x:z2a) (xs:List z2a):z75 1 id c x xs={val:= .tup [i64 (z5t x),.lit .nilIface],bx:=[(id,some [.undef,.sl (.own 1) none (z5t c+z5t x) (z1i [] c++xs)])]}:=rfl
@[simp] theorem z3Zc (id:Nat) (c x:z2a) (xs:List z2a):z75 2 id c x xs={val:= .tup [i64 (z5t x),.lit .nilIface],bx:=[(id,some [.undef,.sl (.own 1) none (z5t c+z5t x) (z1i [] c++xs)])]}:=rfl
@[simp] theorem z71c (id:Nat) (nl:Option Bool) (n:Nat) (l:List UInt8) (x:z2a) (xs:List z2a):z75 3 id (.sl (.own 1) nl n (bys l)) x xs={val:=st l,bx:=[(id,some [])]}:=by
 show({val:= .lit (.string (z6Y (z2r l))),bx:=_}:Eff)=_
 rw[z0da]
 rfl
theorem kT {E:Env} {c:Arg} {a b:z4a} {Q:z0n→ASt→Prop} {s:ASt} (h:arg E s.get c=bo true):awp E (.cond c a b) Q s=awp E a Q s:=by
 rw[z7b,h];simp
theorem kF {E:Env} {c:Arg} {a b:z4a} {Q:z0n→ASt→Prop} {s:ASt} (h:arg E s.get c=bo false):awp E (.cond c a b) Q s=awp E b Q s:=by
 rw[z7b,h];simp

/-! ### Iterators -/
theorem z68a {f:Nat×Bool→ASt→Prop} {Q:IQ} {p:Nat×Bool}:(fun e st'=>z17a f Q e p st')=z2oa (fun st'=>f p st') (fun e st'=>Q e p st'):=by
 funext e st'
 cases e<;>rfl
@[simp] theorem z4vc (E:Env) (l:Nat) (el:Nat→Option (List z2a)) (c:z4a) (Q:IQ) (p:Nat×Bool) (s:ASt):z3La E l el (.plain c) Q p s=awp E c (fun e st'=>Q e p st') s:=rfl
@[simp] theorem z3Mc (E:Env) (l:Nat) (el:Nat→Option (List z2a)) (c:z4a) (b:z8La) (Q:IQ) (p:Nat×Bool) (s:ASt):z3La E l el (.seq (.plain c) b) Q p s=awp E c (z2oa (fun st'=>z3La E l el b Q p st') (fun e st'=>Q e p st')) s:=by
 simp only[z3La,z68a]
@[simp] theorem z6uc (E:Env) (l:Nat) (el:Nat→Option (List z2a)) (i:Nat) (b:z8La) (Q:IQ) (p:Nat×Bool) (s:ASt):z3La E l el (.block i b) Q p s=z3La E l el b (z4Ma i Q) p s:=rfl
@[simp] theorem z6Ob (f:Nat×Bool→ASt→Prop) (Q:IQ) (p:Nat×Bool) (s:ASt):z17a f Q .normal p s=f p s:=rfl
@[simp] theorem z6fc (f:Nat×Bool→ASt→Prop) (Q:IQ) (i:Nat) (p:Nat×Bool) (s:ASt):z17a f Q (.exit i) p s=Q (.exit i) p s:=rfl
@[simp] theorem z9Bb (i:Nat) (Q:IQ) (p:Nat×Bool) (s:ASt):z4Ma i Q .normal p s=Q .normal p s:=rfl
@[simp] theorem z38b (i:Nat) (Q:IQ) (p:Nat×Bool) (s:ASt):z4Ma i Q (.exit i) p s=Q .normal p s:=by simp[z4Ma]
def z4cc (E:Env) (f:ASt→Prop):List z1d→ASt→Prop
 |[],st=>f st
 |o::os,st=>okA E o st∧z4cc E f os (z6g E o st)
attribute [simp] z4cc
theorem z8db (E:Env) (f:ASt→Prop):∀(xs:List z1d) (st:ASt),z4cc E f xs st=(z73 E xs st∧f (z7ma E xs st))
 |[],st=>by simp only[z4cc,z73,z7ma,true_and]
 |o::os,st=>by simp only[z4cc,z73,z7ma,z8db E f os];exact propext and_assoc.symm
@[simp] theorem z1mc (E:Env) (l:Nat) (el:Nat→Option (List z2a)) (keep:List Nat) (gs:List z7I) (xs:List z1d) (d:Option Nat) (y:Nat) (as:List Arg) (zs:List z1d) (Q:IQ) (p:Nat×Bool) (s:ASt):
  z3La E l el (.yield keep gs xs d y as zs) Q p s=((∀s'∈d.toList,lk s.org s'=none)∧z4cc E (fun st0=>p.2=false∧el p.1=some (as.map (arg E (z41b st0).get))∧z0c (as.map (arg E (z41b st0).get))=true∧(z41b st0).get y= .lit (.func (.yield l) #[] #[])∧(∀q∈(z41b st0).box,∀cs,q.2=some cs→cs.all yOk=true∧q.1<1000000)∧
   ∀b:Bool,z2Qa E keep gs (fun e s=>Q e (if b then(p.1+1,false) else(p.1,true)) s) zs (z1dc d b (z41b st0))) xs s):=by
 simp only[z8db,z1Da,z3La]
 apply propext
 constructor
 ·rintro⟨h1,h2,h3,h4,h5,h6,h8,h9⟩
  exact⟨h2,h1,h3,h4,h5,h6,h8,h9⟩
 ·rintro⟨h2,h1,h3,h4,h5,h6,h8,h9⟩
  exact⟨h1,h2,h3,h4,h5,h6,h8,h9⟩
@[simp] theorem z5Ac (d:Nat) (b:Bool) (o e:List (Nat×z2a)) (bx:List (Nat×Option (List z2a))):z1dc (some d) b ⟨o,e,bx⟩=⟨o,(d,bo b)::e,bx⟩:=rfl
@[simp] theorem z9Cc (b:Bool) (o e:List (Nat×z2a)) (bx:List (Nat×Option (List z2a))):z1dc none b ⟨o,e,bx⟩=⟨o,e,bx⟩:=rfl
@[simp] theorem z02c (o e:List (Nat×z2a)) (b:List (Nat×Option (List z2a))):z41b ⟨o,e,b⟩=⟨o,e.map fun q=>(q.1,if yOk q.2 then q.2 else .undef),b⟩:=rfl
@[simp] theorem yOk_ep (cs:List z2a):yOk (.ep cs)=false:=rfl
@[simp] theorem yOk_sl (m:z0ea) (nl:Option Bool) (n:Nat) (cs:List z2a):yOk (.sl m nl n cs)=z2f (.sl m nl n cs):=rfl
@[simp] theorem z6Ic:yOk .undef=true:=rfl
@[simp] theorem yOk_bp (i o:Nat):yOk (.bp i o)=true:=rfl
@[simp] theorem z13c (v:Value):yOk (.lit v)=true:=rfl
@[simp] theorem yOk_st (l:List UInt8):yOk (st l)=true:=rfl
@[simp] theorem yOk_bo (b:Bool):yOk (bo b)=true:=rfl
@[simp] theorem z29c (n:Int):yOk (i64 n)=true:=rfl
@[simp] theorem z22c (cs:List z2a):yOk (.agg cs)=z0c cs:=rfl
@[simp] theorem z31c (cs:List z2a):yOk (.tup cs)=z0c cs:=rfl
@[simp] theorem z7Qc (E:Env) (l:Nat) (el:Nat→Option (List z2a)) (keep:List Nat) (gs:List z7I) (xs:List z1d) (d:Option Nat) (y:Nat) (as:List Arg) (zs:List z1d) (b:z8La) (Q:IQ) (p:Nat×Bool) (s:ASt):
  z3La E l el (.seq (.yield keep gs xs d y as zs) b) Q p s=z3La E l el (.yield keep gs xs d y as zs) (z17a (fun p st=>z3La E l el b Q p st) Q) p s:=rfl
def inp (label:List UInt8) (parts:List (List UInt8)):List UInt8:=z3U label++parts.flatMap z3U
def drv (key label:List UInt8) (parts:List (List UInt8)):List UInt8:=mac key (inp label parts)
theorem z95b (k l:List UInt8) (p:List (List UInt8)):(drv k l p).length=32:=z5Da _
attribute [simp] z95b
def pth (key:List UInt8) (ls:List (List UInt8)):List UInt8:=ls.foldl (fun k l=>drv k l []) key
def z2Yb:List UInt8:=[115,101,101,100]
def z91c:List UInt8:=[118,97,108,117,101]
def sdN (s:List UInt8):Nat→List UInt8
 |0=>s
 |i+1=>drv (sdN s i) z2Yb []
def vlN (s:List UInt8) (i:Nat):List UInt8:=drv (sdN s i) z91c []
def stN (s:List UInt8):Nat→List UInt8
 |0=>[]
 |i+1=>stN s i++vlN s i
def blkN (n:Int):Nat:=(n.toNat+31)/32
def bysN (s:List UInt8) (n:Int):List UInt8:=if n≤0∨8000<n then [] else(stN s (blkN n)).take n.toNat
def aftN (s:List UInt8) (n:Int):List UInt8:=if n≤0∨8000<n then s else sdN s (blkN n)

def z49c:z5a:=⟨fun ds=>∃(key label:List UInt8) (nl:Option Bool) (parts:List (List UInt8)),key.length<1000000000∧label.length<1000000000∧z8ea parts<1000000000∧ds=[st key,st label,.sl .plain nl parts.length (sts parts)],fun ds=>st (drv (gS (nth ds 0)) (gS (nth ds 1)) (gSs (gCs (nth ds 2))))⟩
def inpC:z5a:=⟨fun ds=>∃(label:List UInt8) (nl:Option Bool) (parts:List (List UInt8)),label.length<1000000000∧z8ea parts<1000000000∧ds=[st label,.sl .plain nl parts.length (sts parts)],fun ds=>st (inp (gS (nth ds 0)) (gSs (gCs (nth ds 1))))⟩
def pthC:z5a:=⟨fun ds=>∃(key:List UInt8) (nl:Option Bool) (ls:List (List UInt8)),key.length<1000000000∧z8ea ls<1000000000∧ds=[st key,.sl .plain nl ls.length (sts ls)],fun ds=>st (pth (gS (nth ds 0)) (gSs (gCs (nth ds 1))))⟩
def gR (d:z2a):List UInt8:=gS (nth (gCs d) 0)
def nxtC:z5a:=⟨fun ds=>∃s:List UInt8,s.length<1000000000∧ds=[.agg [st s]],fun ds=> .tup [st (drv (gR (nth ds 0)) z91c []),.agg [st (drv (gR (nth ds 0)) z2Yb [])]]⟩
def z5Dc:z5a:=⟨fun ds=>∃(s:List UInt8) (n:Int),s.length<1000000000∧z2l n∧ds=[.agg [st s],i64 n],fun ds=> .tup [st (bysN (gR (nth ds 0)) (asI (nth ds 1))),.agg [st (aftN (gR (nth ds 0)) (asI (nth ds 1)))]]⟩
def z67c:ItC:=⟨fun x y=>∃s:List UInt8,s.length<1000000000∧x=[.agg [st s]]∧y=[],fun x _ i=>some [st (vlN (gR (nth x 0)) i),.agg [st (sdN (gR (nth x 0)) (i+1))]],[]⟩
@[simp] theorem z5Nc:z67c.lv=[]:=rfl
@[simp] theorem z8Mc (l:Nat) (x y:List z2a):itSt l [] x y=z9c [] (x++ .lit (.func (.yield l) #[] #[])::y):=by simp[itSt,z9c,lvS]

@[simp] theorem z0Eb (k l:List UInt8) (nl:Option Bool) (n:Nat) (p:List (List UInt8)):z49c.post [st k,st l,.sl .plain nl n (sts p)]=st (drv k l p):=by simp[z49c]
@[simp] theorem z1rc (k l:List UInt8) (nl:Option Bool) (n:Nat):z49c.post [st k,st l,.sl .plain nl n []]=st (drv k l []):=by
 have:=z0Eb k l nl n []
 simpa using this
@[simp] theorem z4Rc (l:List UInt8) (nl:Option Bool) (n:Nat) (p:List (List UInt8)):inpC.post [st l,.sl .plain nl n (sts p)]=st (inp l p):=by simp[inpC]
@[simp] theorem z1Vc (k:List UInt8) (nl:Option Bool) (n:Nat) (p:List (List UInt8)):pthC.post [st k,.sl .plain nl n (sts p)]=st (pth k p):=by simp[pthC]
@[simp] theorem z3Tc (s:List UInt8):nxtC.post [.agg [st s]]= .tup [st (drv s z91c []),.agg [st (drv s z2Yb [])]]:=by simp[nxtC,gR]
@[simp] theorem z4uc (s:List UInt8) (n:Int):z5Dc.post [.agg [st s],i64 n]= .tup [st (bysN s n),.agg [st (aftN s n)]]:=by simp[z5Dc,gR]
end Go.Abs
end

section
namespace Go.Abs
def msgD (d:List UInt8):List Nat:=d.flatMap fun b=>[b.toNat/16,b.toNat% 16]
def sumD (d:List UInt8):Nat:=(d.map fun b=>(15-b.toNat/16)+(15-b.toNat% 16)).sum
def chkD (s:Nat):List Nat:=[s/256,s/16% 16,s% 16]
def dgt (d:List UInt8):List Nat:=msgD d++chkD (sumD d)
def z06c (kb:List UInt8) (f:Nat):Nat→List UInt8→List UInt8
 |0,v=>v
 |n+1,v=>z5G 4 [kb,z1t ((f+n:Nat):Int),z06c kb f n v]
theorem z0zb {v:List UInt8} (h:v.length=16) (kb:List UInt8) (f:Nat):∀n,(z06c kb f n v).length=16
 |0=>h
 |_+1=>z8A _ _
def z5Ub (c f t:Int):Prop:=0≤c∧c≤34∧0≤f∧f≤15∧0≤t∧t≤15
instance (c f t:Int):Decidable (z5Ub c f t):=by unfold z5Ub;exact inferInstance
def adv (c f t:Int) (v:List UInt8):List UInt8:=if z5Ub c f t then z06c (z1t c) f.toNat (t.toNat-f.toNat) v else z4c 16
theorem z4hb {v:List UInt8} (h:v.length=16) (c f t:Int):(adv c f t v).length=16:=by
 unfold adv
 split
 ·exact z0zb h _ _ _
 ·rfl
def z4Bc:List UInt8:=[99,104,97,105,110]
def z4Nc (seed:List UInt8) (k:Nat):List UInt8:=(drv seed z4Bc [z1t (k:Int)]).take 16
theorem z6Ca (s:List UInt8) (k:Nat):(z4Nc s k).length=16:=by simp[z4Nc]

/-! ### One value of each chain -/
def z2hc (f:Nat→List UInt8):Nat→List UInt8
 |0=>[]
 |n+1=>z2hc f n++f n
theorem z2Ga {f:Nat→List UInt8}:∀n,(∀k,k<n→(f k).length=16)→(z2hc f n).length=16*n
 |0,_=>rfl
 |n+1,h=>by
  rw[z2hc,List.length_append,z2Ga n fun k hk=>h k (by omega),h n (by omega)];omega
def dgI (d:List UInt8):List Int:=(dgt d).map Int.ofNat
def pubV (s:List UInt8) (k:Nat):List UInt8:=adv k 0 15 (z4Nc s k)
def sigV (s:List UInt8) (hs:List Int) (k:Nat):List UInt8:=adv k 0 (atI hs k) (z4Nc s k)
def endV (hs:List Int) (s:List UInt8) (k:Nat):List UInt8:=adv k (atI hs k) 15 ((s.drop (16*k)).take 16)
def pubS (s:List UInt8):List UInt8:=z2hc (pubV s) 35
def sigS (s d:List UInt8):List UInt8:=z2hc (sigV s (dgI d)) 35
def endS (d s:List UInt8):List UInt8:=z2hc (endV (dgI d) s) 35
theorem z32a (s:List UInt8) (k:Nat):(pubV s k).length=16:=z4hb (z6Ca _ _) _ _ _
theorem z73a (s:List UInt8) (hs:List Int) (k:Nat):(sigV s hs k).length=16:=z4hb (z6Ca _ _) _ _ _
theorem z2ub (s:List UInt8):(pubS s).length=560:=z2Ga 35 fun k _=>z32a s k
theorem z7vb (s d:List UInt8):(sigS s d).length=560:=z2Ga 35 fun k _=>z73a s _ k
def recD (d s:List UInt8):List UInt8:=if s.length=560 then z5G 5 [endS d s] else z4c 16
def pubD (s:List UInt8):List UInt8:=z5G 5 [pubS s]
theorem z6Ib (d s:List UInt8):(recD d s).length=16:=by
 unfold recD
 split
 ·exact z8A _ _
 ·rfl
theorem z9Eb (s:List UInt8):(pubD s).length=16:=z8A _ _
end Go.Abs
end

section
namespace Go.Abs
attribute [simp] z32a z73a z2ub z7vb z6Ib z9Eb z6Ca
theorem z3ha (bs:List Nat) (bx:Nat→Option (List z2a)) (f:Nat) (x y:List z2a):z3v bs bx (.fn f x y)=((∀v∈x,z6n bs bx v)∧(∀v∈y,z6n bs bx v)):=rfl
theorem z1Ea {l:List UInt8} (h:l.length=16):l.take 16=l:=by rw[←h,List.take_length]
theorem z45c (a:List UInt8):z8ea [a]=a.length+9:=by simp[z8ea]
@[simp] theorem z3Uc (tag:Int) (x:List UInt8) (nl:Option Bool):ofC.post [i64 tag,.sl .plain nl 1 [st x]]= .agg (bys (z5G tag [x])):=z81b tag nl 1 [x]
@[simp] theorem z8Gc (tag:Int) (x:List UInt8) (nl:Option Bool):z2pb.post [i64 tag,.sl .plain nl 1 [st x]]= .agg (bys (z5G tag [x])):=z14a tag nl 1 [x]
end Go.Abs
end

section
namespace Go.Abs
structure Cmd where
 kind:Int
 key:Int
 other:Int
 type:Int
 uses:Int
 life:Int
 data:List UInt8
 list:List Int
def Cmd.ok (c:Cmd):Prop:=z2l c.kind∧z2l c.key∧z2l c.other∧z2l c.type∧z2l c.uses∧z2l c.life∧∀x∈c.list,z2l x
def z1q (c:Cmd) (nl:Option Bool):List z2a:=[i64 c.kind,i64 c.key,i64 c.other,i64 c.type,i64 c.uses,i64 c.life,st c.data,.sl .plain nl c.list.length (z4j c.list)]
def z1Ha (l:List z2a):Cmd:=⟨asI (nth l 0),asI (nth l 1),asI (nth l 2),asI (nth l 3),asI (nth l 4),asI (nth l 5),gS (nth l 6),gIs (gCs (nth l 7))⟩
@[simp] theorem z8qa (c:Cmd) (nl:Option Bool):z1Ha (z1q c nl)=c:=by simp[z1Ha,z1q,nth]
def z5J:Cmd:=⟨0,0,0,0,0,0,[],[]⟩

/-! ### Kinds -/
structure Row where
 name:List UInt8
 uses:Nat
 least:Nat
 most:Nat
def z3Jc:List Row:=[⟨[103,101,110,101,114,97,116,101],4,0,0⟩,
 ⟨[105,109,112,111,114,116],20,32,32⟩,
 ⟨[101,120,112,111,114,116],1,0,0⟩,
 ⟨[101,110,99,114,121,112,116],17,0,1000⟩,
 ⟨[100,101,99,114,121,112,116],17,28,1028⟩,
 ⟨[109,97,99],17,0,1000⟩,
 ⟨[119,114,97,112],3,0,0⟩,
 ⟨[117,110,119,114,97,112],17,1,200⟩,
 ⟨[114,97,119,45,119,114,97,112],3,0,0⟩,
 ⟨[114,97,119,45,117,110,119,114,97,112],21,60,60⟩,
 ⟨[100,101,114,105,118,101],5,0,0⟩,
 ⟨[100,101,115,116,114,111,121],1,0,0⟩,
 ⟨[114,111,116,97,116,101],1,0,0⟩,
 ⟨[98,97,99,107,117,112],0,0,0⟩,
 ⟨[114,101,115,116,111,114,101],16,1,1048576⟩,
 ⟨[114,101,110,101,119],0,0,0⟩,
 ⟨[114,101,112,108,97,99,101],16,1,2000⟩,
 ⟨[115,112,108,105,116],8,0,0⟩,
 ⟨[109,101,114,103,101],16,1,1048576⟩,
 ⟨[117,110,108,111,99,107],0,0,0⟩,
 ⟨[114,101,107,101,121],0,0,0⟩,
 ⟨[100,101,99,111,109,109,105,115,115,105,111,110],0,0,0⟩,
 ⟨[112,114,111,112,111,115,101],18,16,16⟩,
 ⟨[97,112,112,114,111,118,101],19,1,2000⟩,
 ⟨[119,105,116,104,100,114,97,119],19,1,2000⟩,
 ⟨[104,101,97,100],0,0,0⟩,
 ⟨[112,105,101,99,101],3,0,0⟩]

def z9ia (r:Row):List z2a:=[st r.name,i64 r.uses,i64 r.least,i64 r.most]
def z9ac:List z2a:=z3Jc.flatMap z9ia
def z97c:Row:=⟨[],0,0,0⟩
def z67b (k:Int):Row:=z3Jc.getD (k-1).toNat z97c
def z7Qb (k:Int):Bool:=leB' 1 k&&leB' k 27
where leB' (a b : Int) : Bool := decide (a ≤ b)
def z6Jb (k:Int):List UInt8:=if 1≤k∧k≤27 then(z67b k).name else []
def z9yc (s:List UInt8):List Row→Nat→Nat
 |[],_=>0
 |r::rs,i=>if r.name=s then i+1 else z9yc s rs (i+1)
def z1ya (s:List UInt8):Nat:=z9yc s z3Jc 0

/-! ### Bits of whole numbers -/
def z4Xa (x y:Int):Int:=IntKind.i64.wrap (BitVec.ofInt 64 x&&& ~~~BitVec.ofInt 64 y).toNat
@[simp] theorem z3rb (x y:Int):z4G .andNot (i64 x) (i64 y)=i64 (z4Xa x y):=rfl
@[simp] theorem z8Pb (x y:Int):z9b .andNot (i64 x) (i64 y)=True:=by simp[z9b,i64,-z3fb]
@[simp] theorem z05b (x y:Int):z9b .and (i64 x) (i64 y)=True:=by simp[z9b,i64,-z3fb]
def z9wa (n:Int):Bool:=z4Xa n 956==0
def z2Qb (u f:Nat):Bool:=z6Kb u f !=0
def z1Wa (u f:Nat) (n most:Int):Bool:=decide (0≤n)&&decide (n≤if z2Qb u f then most else 0)
def z53c:Int→List Int→Bool
 |_,[]=>true
 |last,n::r=>decide (last<n)&&decide (n≤4096)&&z53c n r
def z3nb (u:Nat) (l:List Int):Bool:=if z2Qb u 8 then z53c 0 l&&decide (0<l.length) else decide (l.length=0)
def z3Ac (c:Cmd) (u:Nat):Bool:=z1Wa u 1 c.key 4294967296&&z1Wa u 2 c.other 4294967296&&z1Wa u 4 c.type 31&&z1Wa u 4 c.uses 956&&z1Wa u 4 c.life 1099511627776
def z3Dc (c:Cmd) (r:Row):Bool:=z3Ac c r.uses&&z9wa c.uses&&z3nb r.uses c.list&&(z2Qb r.uses 16||decide (c.data=[]))&&decide (r.least≤c.data.length)
def z8dc (c:Cmd):Nat:=if ¬(1≤c.kind∧c.kind≤27) then 1 else if z3Dc c (z67b c.kind) then(if(z67b c.kind).most<c.data.length then 2 else 0) else 1

/-! ### Encodings -/
def six (c:Cmd):List Int:=[c.kind,c.key,c.other,c.type,c.uses,c.life]
def z4Z (c:Cmd):List UInt8:=(six c).flatMap z1t++(z3U c.data++z0q c.list)
def z2pa:Nat→List UInt8→List Int×List UInt8×Nat
 |0,b=>([],b,0)
 |n+1,b=>if(z6l b).2.2≠0 then([],b,(z6l b).2.2) else((z6l b).1::(z2pa n (b.drop (z6l b).2.1)).1,(z2pa n (b.drop (z6l b).2.1)).2)
def aft (b:List UInt8) (n e:Nat):List UInt8:=if e=0 then b.drop n else b
def z8Oc (b:List UInt8):Cmd×Nat:=
 let r:=z2pa 6 b
 if r.2.2≠0 then(z5J,r.2.2) else
 let s:=z9ea r.2.1
 if s.2.2≠0 then(z5J,s.2.2) else
 let l:=z5x z6l 1 (r.2.1.drop s.2.1)
 if l.2.2≠0 then(z5J,l.2.2) else
 if 0<((r.2.1.drop s.2.1).drop l.2.1).length then(z5J,6) else
 let c:Cmd:=⟨atI r.1 0,atI r.1 1,atI r.1 2,atI r.1 3,atI r.1 4,atI r.1 5,s.1,l.1⟩
 if z8dc c≠0 then(z5J,z8dc c) else(c,0)
end Go.Abs
end

section
namespace Go.Abs
def z1db:z5a:=⟨fun ds=>∃(r:Row) (s:List UInt8),ds=[.agg (z9ia r),.ep [st s]],fun ds=>bo (gS (nth (gCs (nth ds 0)) 0)==gS (nth (gCs (nth ds 1)) 0))⟩
def gF1 (d:z2a):z2a:=match d with| .fn _ _ y=>nth (gCs (nth y 0)) 0|_=> .undef
def z0Yc:z5a:=⟨fun ds=>∃(s:List UInt8) (nl:Option Bool),ds=[.sl .plain nl 27 z9ac,.fn 121 [] [.ep [st s]]],fun ds=>i64 ((z1ya (gS (gF1 (nth ds 1))):Int)-1)⟩
def z1Tb:z5a:=⟨fun ds=>∃s:List UInt8,ds=[st s],fun ds=> .tup [i64 (z1ya (gS (nth ds 0))),bo (z1ya (gS (nth ds 0)) !=0)]⟩
def z8Wa:z5a:=⟨fun ds=>∃k:Int,ds=[i64 k],fun ds=>bo (z7Qb (asI (nth ds 0)))⟩
def z0sc:z5a:=⟨fun ds=>∃k:Int,z2l k∧ds=[i64 k],fun ds=>st (z6Jb (asI (nth ds 0)))⟩
def numC:z5a:=⟨fun ds=>∃(r:Row) (f:Nat) (n most:Int),ds=[.agg (z9ia r),i64 f,i64 n,i64 most],fun ds=>bo (z1Wa (asI (nth (gCs (nth ds 0)) 1)).toNat (asI (nth ds 1)).toNat (asI (nth ds 2)) (asI (nth ds 3)))⟩
def z0Hc:z5a:=⟨fun ds=>∃(r:Row) (nl:Option Bool) (l:List Int),l.length≤1000000000∧ds=[.agg (z9ia r),.sl .plain nl l.length (z4j l)],fun ds=>bo (z3nb (asI (nth (gCs (nth ds 0)) 1)).toNat (gIs (gCs (nth ds 1))))⟩
def Cmd.small (c:Cmd):Prop:=c.ok∧c.data.length≤100000000∧c.list.length≤100000000
def z9oc:z5a:=⟨fun ds=>∃(c:Cmd) (nl:Option Bool),c.small∧ds=[.agg (z1q c nl)],fun ds=>i64 (z8dc (z1Ha (gCs (nth ds 0))))⟩
def bls (ps:List (Option Bool×List UInt8)):List z2a:=ps.map fun p=> .sl (.own 1) p.1 p.2.length (bys p.2)
def z6Rb (ps:List (Option Bool×List UInt8)):Nat:=(ps.map fun p=>p.2.length).sum
def z5Kb (l:List z2a):List UInt8:=l.flatMap fun d=>gBs (gCs d)
def mdA (b:Bool):z0ea:=if b then .own 1 else .plain
def mls (ps:List (Bool×Option Bool×List UInt8)):List z2a:=ps.map fun p=> .sl (mdA p.1) p.2.1 p.2.2.length (bys p.2.2)
def z6x:z5a:=⟨fun ds=>∃(nl:Option Bool) (ps:List (Bool×Option Bool×List UInt8)),z6Rb (ps.map (·.2))≤10000000000∧ps.length≤10000000000∧ds=[.sl .plain nl ps.length (mls ps)],fun ds=> .sl (.own 1) none (z5Kb (gCs (nth ds 0))).length (bys (z5Kb (gCs (nth ds 0))))⟩
def z25a:z5a:=⟨fun ds=>∃n:Nat,n≤10000000000∧ds=[.sl .plain (some true) 0 [],i64 n],fun _=> .sl (.own 1) none 0 []⟩
def z1ha:z5a:=⟨fun ds=>∃(c:Cmd) (nl:Option Bool),c.small∧ds=[.agg (z1q c nl)],fun ds=> .sl (.own 1) none (z4Z (z1Ha (gCs (nth ds 0)))).length (bys (z4Z (z1Ha (gCs (nth ds 0)))))⟩
def z8da:z5a:=⟨fun ds=>∃(c:Cmd) (nl:Option Bool),c.small∧ds=[.agg (z1q c nl)],fun ds=> .agg (bys (z5G 7 [z4Z (z1Ha (gCs (nth ds 0)))]))⟩
def z2mb (c d:Cmd):Bool:=c.kind==d.kind&&c.key==d.key&&c.other==d.other&&c.type==d.type&&c.uses==d.uses&&c.life==d.life&&c.data==d.data&&c.list==d.list
def z4na:z5a:=⟨fun ds=>∃(c d:Cmd) (nl nl':Option Bool),c.small∧d.small∧ds=[.agg (z1q c nl),.agg (z1q d nl')],fun ds=>bo (z2mb (z1Ha (gCs (nth ds 0))) (z1Ha (gCs (nth ds 1))))⟩
/-! ### The reader -/
def z46 (c:Cmd) (nl:Option Bool) (b:List UInt8) (nb:Option Bool):List z2a:=z1q c nl++[.sl .plain nb b.length (bys b)]
def gNl (d:z2a):Option Bool:=match d with| .sl _ nl _ _=>nl|_=>none
def rC (ds:List z2a):Cmd:=z1Ha (gCs (nth ds 0))
def rN (ds:List z2a):Option Bool:=gNl (nth (gCs (nth ds 0)) 7)
def rB (ds:List z2a):List UInt8:=gBs (gCs (nth (gCs (nth ds 0)) 8))
def rM (ds:List z2a):Option Bool:=gNl (nth (gCs (nth ds 0)) 8)
def z66c (l:List Int) (d:List UInt8) (ls:List Int):Cmd:=⟨atI l 0,atI l 1,atI l 2,atI l 3,atI l 4,atI l 5,d,ls⟩
def z41c (c:Cmd) (l:List Int):Cmd:=z66c (l++(six c).drop l.length) c.data c.list
def z7Cb (ds:List z2a):Prop:=∃(c:Cmd) (nl:Option Bool) (b:List UInt8) (nb:Option Bool),c.small∧b.length≤100000000∧ds=[.ep (z46 c nl b nb)]
def z1Ub:CM:=⟨[0],[],fun ds=>∃(c:Cmd) (nl:Option Bool) (b:List UInt8) (nb:Option Bool) (n e:Nat),b.length≤1000000000∧(e=0→n≤b.length)∧ds=[.ep (z46 c nl b nb),i64 n,i64 e],fun ds=>i64 (asI (nth ds 2)),
 fun ds _=>z46 (rC ds) (rN ds) (aft (rB ds) (asI (nth ds 1)).toNat (asI (nth ds 2)).toNat) (rM ds)⟩
def z8aa:CM:=⟨[0],[],z7Cb,fun ds=>i64 (z2pa 6 (rB ds)).2.2,fun ds _=>z46 (z41c (rC ds) (z2pa 6 (rB ds)).1) (rN ds) (z2pa 6 (rB ds)).2.1 (rM ds)⟩
def z5ab:CM:=⟨[0],[],z7Cb,fun ds=>i64 (z9ea (rB ds)).2.2,fun ds _=>z46 {rC ds with data:=(z9ea (rB ds)).1} (rN ds) (aft (rB ds) (z9ea (rB ds)).2.1 (z9ea (rB ds)).2.2) (rM ds)⟩
def z69a:CM:=⟨[0],[],z7Cb,fun ds=>i64 (z5x z6l 1 (rB ds)).2.2,fun ds _=>z46 {rC ds with list:=(z5x z6l 1 (rB ds)).1} none (aft (rB ds) (z5x z6l 1 (rB ds)).2.1 (z5x z6l 1 (rB ds)).2.2) (rM ds)⟩
def z5ec:CM:=⟨[0],[],z7Cb,fun ds=>i64 (if 0<(rB ds).length then 6 else z8dc (rC ds)),fun ds _=>z46 (rC ds) (rN ds) (rB ds) (rM ds)⟩
def z8oc:z5a:=⟨fun ds=>∃(nl:Option Bool) (b:List UInt8),b.length≤100000000∧ds=[.sl .plain nl b.length (bys b)],fun ds=> .tup [.agg (z1q (z8Oc (gBs (gCs (nth ds 0)))).1 none),i64 (z8Oc (gBs (gCs (nth ds 0)))).2]⟩

@[simp] theorem z6qc (r:Row) (s:List UInt8):z1db.pre [.agg (z9ia r),.ep [st s]]=True:=eq_true ⟨r,s,rfl⟩
@[simp] theorem z1gc (r:Row) (s:List UInt8):z1db.post [.agg (z9ia r),.ep [st s]]=bo (r.name==s):=by simp[z1db,z9ia,nth]
@[simp] theorem z43c (nl:Option Bool) (s:List UInt8):z0Yc.pre [.sl .plain nl 27 z9ac,.fn 121 [] [.ep [st s]]]=True:=eq_true ⟨s,nl,rfl⟩
@[simp] theorem z1Nc (nl:Option Bool) (s:List UInt8):z0Yc.post [.sl .plain nl 27 z9ac,.fn 121 [] [.ep [st s]]]=i64 ((z1ya s:Int)-1):=by simp[z0Yc,gF1,nth]
@[simp] theorem z2Oc (s:List UInt8):z1Tb.pre [st s]=True:=eq_true ⟨s,rfl⟩
@[simp] theorem z7vc (s:List UInt8):z1Tb.post [st s]= .tup [i64 (z1ya s),bo (z1ya s !=0)]:=by simp[z1Tb]
@[simp] theorem z2fc (k:Int):z8Wa.pre [i64 k]=True:=eq_true ⟨k,rfl⟩
@[simp] theorem z8Tb (k:Int):z8Wa.post [i64 k]=bo (z7Qb k):=by simp[z8Wa]
@[simp] theorem z8Ec (k:Int):z0sc.post [i64 k]=st (z6Jb k):=by simp[z0sc]
@[simp] theorem z4Uc (r:Row) (f n most:Int):numC.post [.agg (z9ia r),i64 f,i64 n,i64 most]=bo (z1Wa r.uses f.toNat n most):=by simp[numC,z9ia,nth]
@[simp] theorem z1xc (r:Row) (nl:Option Bool) (n:Nat) (l:List Int):z0Hc.post [.agg (z9ia r),.sl .plain nl n (z4j l)]=bo (z3nb r.uses l):=by simp[z0Hc,z9ia,nth]
@[simp] theorem z3Fc (c:Cmd) (nl:Option Bool):z9oc.post [.agg (z1q c nl)]=i64 (z8dc c):=by simp[z9oc]
theorem z7Ga {c:Cmd} {nl:Option Bool} (h:c.small):z1ha.pre [.agg (z1q c nl)]=True:=eq_true ⟨c,nl,h,rfl⟩
@[simp] theorem z1sa (c:Cmd) (nl:Option Bool):z1ha.post [.agg (z1q c nl)]= .sl (.own 1) none (z4Z c).length (bys (z4Z c)):=by simp[z1ha]
theorem z90a {c:Cmd} {nl:Option Bool} (h:c.small):z8da.pre [.agg (z1q c nl)]=True:=eq_true ⟨c,nl,h,rfl⟩
@[simp] theorem z2ia (c:Cmd) (nl:Option Bool):z8da.post [.agg (z1q c nl)]= .agg (bys (z5G 7 [z4Z c])):=by simp[z8da]
theorem z5nb {c d:Cmd} {nl nl':Option Bool} (h:c.small) (h':d.small):z4na.pre [.agg (z1q c nl),.agg (z1q d nl')]=True:=eq_true ⟨c,d,nl,nl',h,h',rfl⟩
@[simp] theorem z0ya (c d:Cmd) (nl nl':Option Bool):z4na.post [.agg (z1q c nl),.agg (z1q d nl')]=bo (z2mb c d):=by simp[z4na]
@[simp] theorem z1Ic (nl:Option Bool) (n:Nat) (b:List UInt8):z8oc.post [.sl .plain nl n (bys b)]= .tup [.agg (z1q (z8Oc b).1 none),i64 (z8Oc b).2]:=by simp[z8oc]
@[simp] theorem z2Pc (ps:List (Option Bool×List UInt8)):z5Kb (bls ps)=ps.flatMap (·.2):=by
 induction ps with
 |nil=>rfl
 |cons p ps ih=>simp only[z5Kb,bls,List.map_cons,List.flatMap_cons] at ih⊢;rw[ih];simp
theorem z2ac (ps:List (Option Bool×List UInt8)):bls ps=mls (ps.map fun p=>(true,p)):=by
 rw[bls,mls,List.map_map];rfl
theorem z8tb (ps:List (Bool×Option Bool×List UInt8)):z5Kb (mls ps)=ps.flatMap (·.2.2):=by
 induction ps with
 |nil=>rfl
 |cons p ps ih=>
  simp only[z5Kb,mls,List.map_cons,List.flatMap_cons] at ih⊢
  rw[ih]
  simp[gCs]
theorem z2da {nl:Option Bool} {n:Nat} {ps:List (Bool×Option Bool×List UInt8)} (h:z6Rb (ps.map (·.2))≤10000000000) (h':ps.length≤10000000000) (hn:n=ps.length):z6x.pre [.sl .plain nl n (mls ps)]=True:=eq_true ⟨nl,ps,h,h',by rw[hn]⟩
theorem z18 (nl:Option Bool) (n:Nat) (ps:List (Bool×Option Bool×List UInt8)):z6x.post [.sl .plain nl n (mls ps)]= .sl (.own 1) none (ps.flatMap (·.2.2)).length (bys (ps.flatMap (·.2.2))):=by
 show z2a.sl (.own 1) none (z5Kb (mls ps)).length (bys (z5Kb (mls ps)))=_
 rw[z8tb]
theorem z08a {nl:Option Bool} {n:Nat} {ps:List (Option Bool×List UInt8)} (h:z6Rb ps≤10000000000) (h':ps.length≤10000000000) (hn:n=ps.length):z6x.pre [.sl .plain nl n (bls ps)]=True:=by
 rw[z2ac]
 refine z2da ?_ (by simpa using h') (by simpa using hn)
 rw[List.map_map,show((fun x:Bool×Option Bool×List UInt8=>x.2)∘fun p:Option Bool×List UInt8=>(true,p))=id from rfl,List.map_id]
 exact h
@[simp] theorem z3Qa (nl:Option Bool) (n:Nat) (ps:List (Option Bool×List UInt8)):z6x.post [.sl .plain nl n (bls ps)]= .sl (.own 1) none (ps.flatMap (·.2)).length (bys (ps.flatMap (·.2))):=by simp[z6x]
theorem z1Jb {n:Int} (h0:0≤n) (h:n≤10000000000):z25a.pre [.sl .plain (some true) 0 [],i64 n]=True:=eq_true ⟨n.toNat,by omega,by rw[show((n.toNat:Nat):Int)=n by omega]⟩
@[simp] theorem z2Ka (ds:List z2a):z25a.post ds= .sl (.own 1) none 0 []:=rfl
theorem z4fa (bs:List Nat) (bx:Nat→Option (List z2a)) (f:Nat) (x y:List z2a):z3v bs bx (.fn f x y)=((∀v∈x,z6n bs bx v)∧(∀v∈y,z6n bs bx v)):=rfl
@[simp] theorem z6Tb (c:Cmd) (nl nb:Option Bool) (b:List UInt8) (r:List z2a):rC (.ep (z46 c nl b nb)::r)=c:=by simp[rC,z46,z1q,z1Ha,nth]
@[simp] theorem z36c (c:Cmd) (nl nb:Option Bool) (b:List UInt8) (r:List z2a):rN (.ep (z46 c nl b nb)::r)=nl:=by simp[rN,z46,z1q,gNl,nth]
@[simp] theorem z7Tb (c:Cmd) (nl nb:Option Bool) (b:List UInt8) (r:List z2a):rB (.ep (z46 c nl b nb)::r)=b:=by simp[rB,z46,z1q,nth]
@[simp] theorem z12c (c:Cmd) (nl nb:Option Bool) (b:List UInt8) (r:List z2a):rM (.ep (z46 c nl b nb)::r)=nb:=by simp[rM,z46,z1q,gNl,nth]
end Go.Abs
end
