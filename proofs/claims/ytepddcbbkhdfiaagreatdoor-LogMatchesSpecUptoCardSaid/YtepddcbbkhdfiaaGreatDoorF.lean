/- Lemmas: an abstract interpreter, and what the functions compute. -/
import Derived.Test.YtepddcbbkhdfiaaGreatDoorE
import Derived.Laws.Sem
set_option linter.unusedSimpArgs false
set_option linter.unusedVariables false
set_option linter.unusedSectionVars false
section
set_option linter.unusedVariables false
namespace Go.Abs
section
variable {K : Cx} {n : Nat}

theorem z0kc {keep:List Nat} {gs:List z0h} {xs:List z6a} {x:Code} {Q:z5c→ASt→Prop} {base:z4f} {st:ASt} {a:Act} {w:World} {r:Option Nat} {m:Nat} (hc:z8ra K n (.region keep gs xs) x=true)
  (hv:∀p∈z4a (.region keep gs xs),VB K p) (hcd:gs.all z0h.cold=true) (h:awp K.E (.region keep gs xs) Q st) (hR:Rel K base n st a w):x.wpIn (WF r) m K.P (z8Sb K base n Q) a w:=by
 simp only[z8ra] at hc
 simp only[awp] at h
 obtain⟨hok,hgs,hq⟩:=h
 split at hc
 ·rename_i id ops draw
  simp only[Bool.and_eq_true,Bool.or_eq_true,Bool.not_eq_true'] at hc
  obtain⟨hops,hdr⟩:=hc
  have hV':∀y∈xs,VOk K y.op:=fun y hy f hf=>hv f (by simp only[z4a,List.mem_flatMap];exact⟨y,hy,hf⟩)
  cases draw with
  |false=>
   refine wpIn_region ?_
   rw[List.range_eq_range']
   refine z4ec (Q:=z8Sb K base n Q) hops hV' ops.size 0 st a w (by omega) hR (by simpa using hok) fun a' w' hR'=>⟨base,z3I.refl _ _,_,z0Sb gs hcd (z6Pa keep hR') (by simpa using hgs),by simpa using hq⟩
  |true=>
   rcases hdr with hdr|hdr
   ·cases hdr
   ·have hlen:=(z7bb hops).1
    have hmap:(List.range ops.size).map (xs.getD · default)=xs:=by
     apply List.ext_getElem?
     intro i
     rw[List.getElem?_map]
     by_cases hi:i<ops.size
     ·rw[List.getElem?_range hi]
      have hi':i<xs.length:=by rw[←hlen];simpa using hi
      simp[List.getD,List.getElem?_eq_getElem hi']
     ·have hi':¬i<xs.length:=by rw[←hlen];simpa using hi
      rw[List.getElem?_eq_none (by simpa using hi),List.getElem?_eq_none (by omega)]
      rfl
    refine wpIn_region_any hdr.2 ?_
    have hR1:Rel K base n st a {w with drawn:=w.drawn+1}:=by
     obtain⟨g,hI,hS,hO⟩:=hR
     exact⟨g,z8Kb hI,z6zb.slots hS,hO⟩
    refine z3mc hops hV' hdr.1 ops.size (List.range ops.size) _ st a _ (by simp) (by simp) List.pairwise_lt_range (fun i=> ?_) hR1 (by rw[hmap];exact hok) (fun a' w' hR'=> ?_)
    ·simp only[List.mem_range]
     constructor
     ·intro hi
      refine⟨hi,?_⟩
      simp[Array.getD_eq_getD_getElem?,hi]
     ·exact fun h=>h.1
    ·rw[hmap] at hR'
     exact⟨base,z3I.refl _ _,_,z0Sb gs hcd (z6Pa keep hR') hgs,hq⟩
 ·cases hc

theorem z5Ea:∀(c:z1c) (x:Code) (r:Option Nat) (m:Nat) (Q:z5c→ASt→Prop) (base:z4f) (st:ASt) (a:Act) (w:World),z8ra K n c x=true→(∀p∈z4a c,VB K p)→(∀f∈z1Ua c,z3La K f (K.E.I f))→
  (z9Aa c=true∨r=none∧z68a c=true)→z2Ga c=true→awp K.E c Q st→Rel K base n st a w→x.wpIn (WF r) m K.P (z8Sb K base n Q) a w
 | .ghost g c,x,r,m,Q,base,st,a,w,hc,hv,hi,hf,hcd,h,hR=>by
  simp only[z8ra] at hc
  simp only[awp] at h
  exact z5Ea c x r m Q base _ a w hc hv hi (by simpa only[z9Aa,z68a] using hf) (by simp only[z2Ga,Bool.and_eq_true] at hcd;exact hcd.2) h.2 (z8Pa g (by simp only[z2Ga,Bool.and_eq_true] at hcd;exact hcd.1) hR h.1)
 | .skip,x,r,m,Q,base,st,a,w,hc,hv,hi,hf,hcd,h,hR=>by
  simp only[z8ra] at hc
  simp only[awp] at h
  split at hc
  ·exact wpIn_skip ⟨base,z3I.refl _ _,st,hR,h⟩
  ·exact wpIn_label ⟨base,z3I.refl _ _,st,hR,h⟩
  ·cases hc
 | .exit id,x,r,m,Q,base,st,a,w,hc,hv,hi,hf,hcd,h,hR=>by
  simp only[z8ra] at hc
  simp only[awp] at h
  split at hc
  ·simp only[beq_iff_eq] at hc
   subst hc
   exact wpIn_exit ⟨base,z3I.refl _ _,st,hR,h⟩
  ·cases hc
 | .ret,x,r,m,Q,base,st,a,w,hc,hv,hi,hf,hcd,h,hR=>by
  simp only[z8ra] at hc
  simp only[awp] at h
  split at hc
  ·exact wpIn_ret ⟨base,z3I.refl _ _,st,hR,h⟩
  ·cases hc
 | .bad,x,r,m,Q,base,st,a,w,hc,hv,hi,hf,hcd,h,hR=>by
  simp only[awp] at h
 | .alt p q,x,r,m,Q,base,st,a,w,hc,hv,hi,hf,hcd,h,hR=>by
  simp only[z8ra,Bool.and_eq_true] at hc
  simp only[awp] at h
  simp only[z4a,z1Ua,List.mem_append] at hv hi
  simp only[z9Aa,z68a,Bool.and_eq_true] at hf
  simp only[z2Ga,Bool.and_eq_true] at hcd
  rcases h with h|h
  ·exact z5Ea p x r m Q base st a w hc.1 (fun f hf=>hv f (.inl hf)) (fun f hf=>hi f (.inl hf)) (hf.imp (·.1) fun h=>⟨h.1,h.2.1⟩) hcd.1 h hR
  ·exact z5Ea q x r m Q base st a w hc.2 (fun f hf=>hv f (.inr hf)) (fun f hf=>hi f (.inr hf)) (hf.imp (·.2) fun h=>⟨h.1,h.2.2⟩) hcd.2 h hR
 | .region keep gs xs,x,r,m,Q,base,st,a,w,hc,hv,hi,hf,hcd,h,hR=>z0kc hc hv (by simpa only[z2Ga] using hcd) h hR
 | .seq p q,x,r,m,Q,base,st,a,w,hc,hv,hi,hf,hcd,h,hR=>by
  simp only[z8ra] at hc
  simp only[awp] at h
  simp only[z4a,z1Ua,List.mem_append] at hv hi
  simp only[z9Aa,z68a,Bool.and_eq_true] at hf
  simp only[z2Ga,Bool.and_eq_true] at hcd
  split at hc
  ·rename_i y z
   simp only[Bool.and_eq_true] at hc
   refine wpIn_seq (wpIn_mono (z5Ea p y r m _ base st a w hc.1 (fun f hf=>hv f (.inl hf)) (fun f hf=>hi f (.inl hf)) (hf.imp (·.1) fun h=>⟨h.1,h.2.1⟩) hcd.1 h hR) ?_)
   intro e a' w' hl
   cases e<;>simp only[z8Sb] at hl<;>simp only[Exit.then]
   ·obtain⟨b',hE,st',hR',hq⟩:=hl
    exact wpIn_mono (z5Ea q z r m Q b' st' a' w' hc.2 (fun f hf=>hv f (.inr hf)) (fun f hf=>hi f (.inr hf)) (hf.imp (·.2) fun h=>⟨h.1,h.2.2⟩) hcd.2 hq hR') (z0oc hE)
   ·exact hl
   ·exact hl
  ·cases hc
 | .cond c p q,x,r,m,Q,base,st,a,w,hc,hv,hi,hf,hcd,h,hR=>by
  simp only[z8ra] at hc
  simp only[awp] at h
  simp only[z4a,z1Ua,List.mem_append] at hv hi
  simp only[z9Aa,z68a,Bool.and_eq_true] at hf
  simp only[z2Ga,Bool.and_eq_true] at hcd
  split at hc
  ·rename_i c' y z
   simp only[Bool.and_eq_true] at hc
   obtain⟨⟨hcc,hy⟩,hz⟩:=hc
   obtain⟨hb,ht,hf'⟩:=h
   have hR':=hR
   obtain⟨g,hI,hS,_⟩:=hR'
   obtain⟨_,hval⟩:=z7sb (z3qa hI hS hcc) hb
   refine wpIn_cond_split hval (fun e=> ?_) (fun e=> ?_)
   ·exact z5Ea p y r m Q base st a w hy (fun f hf=>hv f (.inl hf)) (fun f hf=>hi f (.inl hf)) (hf.imp (·.1) fun h=>⟨h.1,h.2.1⟩) hcd.1 (ht e) hR
   ·exact z5Ea q z r m Q base st a w hz (fun f hf=>hv f (.inr hf)) (fun f hf=>hi f (.inr hf)) (hf.imp (·.2) fun h=>⟨h.1,h.2.2⟩) hcd.2 (hf' e) hR
  ·cases hc
 | .scope b,x,r,m,Q,base,st,a,w,hc,hv,hi,hf,hcd,h,hR=>by
  simp only[z8ra] at hc
  simp only[awp] at h
  simp only[z9Aa,z68a] at hf
  simp only[z2Ga] at hcd
  split at hc
  ·rename_i p
   refine z26b (wpIn_mono (z5Ea b p r m Q base st a w hc hv hi hf hcd h hR) ?_)
   intro e a' w' hl
   cases e<;>simp only[z8Sb] at hl<;>exact hl
  ·cases hc
 | .block id b,x,r,m,Q,base,st,a,w,hc,hv,hi,hf,hcd,h,hR=>by
  simp only[z8ra] at hc
  simp only[awp] at h
  simp only[z9Aa,z68a] at hf
  simp only[z2Ga] at hcd
  split at hc
  ·rename_i id' p
   simp only[Bool.and_eq_true,beq_iff_eq] at hc
   obtain⟨rfl,hp⟩:=hc
   refine wpIn_block (wpIn_mono (z5Ea b p r m _ base st a w hp hv hi hf hcd h hR) ?_)
   intro e a' w' hl
   cases e<;>simp only[z8Sb] at hl<;>simp only[Exit.inBlock]
   ·exact hl
   ·rename_i id'
    obtain⟨b',hE,st',hR',hq⟩:=hl
    simp only[z9v] at hq
    split
    ·rename_i he
     rw[if_pos he] at hq
     exact⟨b',hE,st',hR',hq⟩
    ·rename_i he
     rw[if_neg he] at hq
     exact⟨b',hE,st',hR',hq⟩
   ·exact hl
  ·cases hc
 | .loop b,x,r,m,Q,base,st,a,w,hc,hv,hi,hf,hcd,h,hR=>by
  simp only[z8ra] at hc
  simp only[awp] at h
  simp only[z9Aa,z68a] at hf
  simp only[z2Ga] at hcd
  split at hc
  ·rename_i p
   obtain⟨I,⟨k,hm⟩,hround⟩:=h
   refine z2tb (fun k a w=>∃b',z3I K base b'∧∃st,Rel K b' n st a w∧I k st) ⟨base,z3I.refl _ _,st,hR,hm⟩ fun k a w hj=> ?_
   obtain⟨b',hE,st',hR',hI⟩:=hj
   refine wpIn_mono (z5Ea b p r m _ b' st' a w hc hv hi hf hcd (hround _ st' hI) hR') ?_
   intro e a' w' hl
   have hl:=z0oc hE e a' w' hl
   cases e<;>simp only[z8Sb] at hl<;>simp only[Exit.then]
   ·obtain⟨b2,hE2,st2,hR2,m',hlt,hI'⟩:=hl
    exact⟨m',hlt,b2,hE2,st2,hR2,hI'⟩
   ·exact hl
   ·exact hl
  ·cases hc
 | .range f t ks ps as bd,x,r,m,Q,base,st,a,w,hc,hv,hi,hf,hcd,h,hR=>by
  simp only[z8ra] at hc
  simp only[z4a,z1Ua,List.mem_append,List.mem_cons] at hv hi
  simp only[z9Aa,z68a,Bool.false_eq_true,false_or,Bool.and_eq_true] at hf
  simp only[z2Ga,Bool.and_eq_true] at hcd
  obtain⟨rfl,hfa,hfb⟩:=hf
  split at hc
  ·rename_i G qs p q
   simp only[Bool.and_eq_true,beq_iff_eq,decide_eq_true_eq,List.all_eq_true] at hc
   obtain⟨⟨⟨⟨⟨hg,hps⟩,hlt⟩,hnd⟩,hca⟩,hcb⟩:=hc
   exact z5yc hg hps hlt hnd (hi f (.inl rfl))
    (fun l m' base st a w Q h hR=>z5Ea as p (some l) m' Q base st a w hca (fun p hp=>hv p (.inl hp)) (fun p hp=>hi p (.inr (.inl hp))) (.inl hfa) hcd.1 h hR)
    (fun l m' base st a w Q h hR=>z5Ea bd q (some l) m' Q base st a w hcb (fun p hp=>hv p (.inr hp)) (fun p hp=>hi p (.inr (.inr hp))) (.inl hfb) hcd.2 h hR) h hR
  ·cases hc

theorem z1j {F:Fence} {q:Nat} {P:Program} {fn:Func} {tmps:Array Value} {R:Ending→World→Prop}:∀(ms:List Nat) (w:World),(∀D∈ms,w.heap[D]? =some (.deferred (some [])))→ms.Nodup→
  (∀w',Fr w.heap.size (fun b=>b∈ms) w w'→∃v,(results fn tmps).run P w'= .ok v w'∧R (.returned v) w')→LeavesInM F q P fn tmps R (ms.map mark) .returning w
 |[],w,_,_,h=>h w (Fr.refl _ _ _)
 |D::ms,w,hD,hn,h=>by
  rw[List.nodup_cons] at hn
  refine⟨by simp,.inl ⟨D,w.putObj D (.deferred none),rfl,run_takeDeferred (hD D (by simp)),?_⟩⟩
  have hf:=z7r w D (.deferred none)
  have hlt:∀x∈ms,x<w.heap.size:=fun x hx=>by
   have:=hD x (by simp[hx])
   exact(Array.getElem?_eq_some_iff.1 this).1
  refine z1j ms _ (fun x hx=> ?_) hn.2 (fun w' hw'=>h w' ?_)
  ·rw[hf.block x (hlt x hx) (fun e=>hn.1 (e▸hx))]
   exact hD x (by simp[hx])
  ·exact(hf.mono (Nat.le_refl _) (fun k _ e=>by subst e;simp)).trans (hw'.mono (by simp[World.putObj]) (fun k _ e=>by simp[e]))

theorem z7Lc {base base':z4f} {st:ASt} {a:Act} {w:World} {q:Nat} {fn:Func} {R:Ending→World→Prop} (hE:z3I K base base') (hdl:base.dl=[]) (hR:Rel K base' n st a w)
  (h:∀g w',Inv K base g w' st.getB→z3v K g w' st.get a→z65 K base' st a→∃v,(results fn a.tmps).run K.P w'= .ok v w'∧R (.returned v) w'):LeavesInM (WF none) q K.P fn a.tmps R a.defers .returning w:=by
 obtain⟨g,hI,hS,hO,hd,_⟩:=hR
 obtain⟨ms,e,hn,h1,h2⟩:=hE.marks
 have h3:=h2 g w _ hI
 rw[hd,e,hdl,List.append_nil]
 refine z1j ms w (fun D hD=>(h3 D hD).2.2) hn fun w' hw'=>h g w' ?_ ?_ hO
 ·exact z2Y (hE.inv _ _ _ hI) hw' fun b hb=>⟨(h3 b hb).1,.inl (h1 b hb).1⟩
 ·exact fun s=>z2D hw' (fun b hb=>(h3 b hb).1) (fun b l hb=>(hI.owW b l hb).2) (hS s)
end
end Go.Abs
end

section
set_option linter.unusedVariables false
namespace Go.Abs
section
variable {K : Cx} {base : z4f} {n : Nat} {st : ASt} {a : Act} {w : World}
theorem z68b (gh:z0h) (hF:z2Xb K base) (hR:Rel K base n st a w) (hok:z9i gh st):∃base',z3I K base base'∧z2Xb K base'∧Rel K base' n (z1b gh st) a w:=by
 cases gh with
 |thaw s id=>exact⟨base,z3I.refl _ _,hF,z2id s id hF hR hok⟩
 |thawB b i id=>exact⟨base,z3I.refl _ _,hF,z4Uc b i id hF hR hok⟩
 |unorg s=>exact⟨base,z3I.refl _ _,hF,z8Pa _ rfl hR hok⟩
 |hideB b i=>exact⟨base,z3I.refl _ _,hF,z8Pa _ rfl hR hok⟩
 |reB b i o=>exact⟨base,z3I.refl _ _,hF,z8Pa _ rfl hR hok⟩
 |keep l=>exact⟨base,z3I.refl _ _,hF,z8Pa _ rfl hR hok⟩
 |drop ids=>exact⟨base,z3I.refl _ _,hF,z8Pa _ rfl hR hok⟩
 |freeze ids=>exact⟨base,z3I.refl _ _,hF,z8Pa _ rfl hR hok⟩
 |norm ids=>exact⟨base,z3I.refl _ _,hF,z8Pa _ rfl hR hok⟩
theorem z8wc:∀(gs:List z0h) {base:z4f} {st:ASt},z2Xb K base→Rel K base n st a w→z6S gs st→∃base',z3I K base base'∧z2Xb K base'∧Rel K base' n (z7q gs st) a w
 |[],base,_,hF,hR,_=>⟨base,z3I.refl _ _,hF,hR⟩
 |g::gs,base,st,hF,hR,hok=>by
  obtain⟨b1,e1,f1,r1⟩:=z68b g hF hR hok.1
  obtain⟨b2,e2,f2,r2⟩:=z8wc gs f1 r1 hok.2
  exact⟨b2,e1.trans e2,f2,r2⟩
end
end Go.Abs
end

section
set_option linter.unusedVariables false
namespace Go.Abs
def z8Pb (K:Cx) (Cd:Prop) (base:z4f) (n:Nat) (Q:z5c→ASt→Prop):Exit→Act→World→Prop
 | .normal,a,w=>∃base',(z3I K base base'∧(z2Xb K base→z2Xb K base')∧(Cd→base'=base))∧∃st,Rel K base' n st a w∧Q .normal st
 | .exit id,a,w=>∃base',(z3I K base base'∧(z2Xb K base→z2Xb K base')∧(Cd→base'=base))∧∃st,Rel K base' n st a w∧Q (.exit id) st
 | .ret,a,w=>∃base',(z3I K base base'∧(z2Xb K base→z2Xb K base')∧(Cd→base'=base))∧∃st,Rel K base' n st a w∧Q .ret st
 |_,_,_=>False
theorem z7Ob {K:Cx} {Cd:Prop} {base base':z4f} {n:Nat} {Q:z5c→ASt→Prop} (h:z3I K base base') (hf:z2Xb K base→z2Xb K base') (he:Cd→base'=base):∀e a w,z8Pb K Cd base' n Q e a w→z8Pb K Cd base n Q e a w:=by
 intro e a w hl
 cases e<;>simp only[z8Pb] at hl⊢
 all_goals (obtain⟨b,⟨hb,hb',he'⟩,r⟩:=hl;exact⟨b,⟨h.trans hb,fun x=>hb' (hf x),fun hc=>(he' hc).trans (he hc)⟩,r⟩)
section
variable {K : Cx} {n : Nat} {Cd : Prop}
theorem z1vc {keep:List Nat} {gs:List z0h} {xs:List z6a} {x:Code} {Q:z5c→ASt→Prop} {base:z4f} {st:ASt} {a:Act} {w:World} {r:Option Nat} {m:Nat} (hc:z8ra K n (.region keep gs xs) x=true)
  (hv:∀p∈z4a (.region keep gs xs),VB K p) (hcd:gs.all z0h.cold=true∨(z2Xb K base∧¬Cd)) (h:awp K.E (.region keep gs xs) Q st) (hR:Rel K base n st a w):x.wpIn (WF r) m K.P (z8Pb K Cd base n Q) a w:=by
 simp only[z8ra] at hc
 simp only[awp] at h
 obtain⟨hok,hgs,hq⟩:=h
 split at hc
 ·rename_i id ops draw
  simp only[Bool.and_eq_true,Bool.or_eq_true,Bool.not_eq_true'] at hc
  obtain⟨hops,hdr⟩:=hc
  have hV':∀y∈xs,VOk K y.op:=fun y hy f hf=>hv f (by simp only[z4a,List.mem_flatMap];exact⟨y,hy,hf⟩)
  cases draw with
  |false=>
   refine wpIn_region ?_
   rw[List.range_eq_range']
   refine z4ec (Q:=z8Pb K Cd base n Q) hops hV' ops.size 0 st a w (by omega) hR (by simpa using hok) fun a' w' hR'=> ?_
   rcases hcd with hcd|hcd
   ·exact⟨base,⟨z3I.refl _ _,fun x=>x,fun _=>rfl⟩,_,z0Sb gs hcd (z6Pa keep hR') (by simpa using hgs),by simpa using hq⟩
   ·obtain⟨b',e1,e2,e3⟩:=z8wc gs hcd.1 (z6Pa keep hR') (by simpa using hgs)
    exact⟨b',⟨e1,fun _=>e2,fun h=>absurd h hcd.2⟩,_,e3,by simpa using hq⟩
  |true=>
   rcases hdr with hdr|hdr
   ·cases hdr
   ·have hlen:=(z7bb hops).1
    have hmap:(List.range ops.size).map (xs.getD · default)=xs:=by
     apply List.ext_getElem?
     intro i
     rw[List.getElem?_map]
     by_cases hi:i<ops.size
     ·rw[List.getElem?_range hi]
      have hi':i<xs.length:=by rw[←hlen];simpa using hi
      simp[List.getD,List.getElem?_eq_getElem hi']
     ·have hi':¬i<xs.length:=by rw[←hlen];simpa using hi
      rw[List.getElem?_eq_none (by simpa using hi),List.getElem?_eq_none (by omega)]
      rfl
    refine wpIn_region_any hdr.2 ?_
    have hR1:Rel K base n st a {w with drawn:=w.drawn+1}:=by
     obtain⟨g,hI,hS,hO⟩:=hR
     exact⟨g,z8Kb hI,z6zb.slots hS,hO⟩
    refine z3mc hops hV' hdr.1 ops.size (List.range ops.size) _ st a _ (by simp) (by simp) List.pairwise_lt_range (fun i=> ?_) hR1 (by rw[hmap];exact hok) (fun a' w' hR'=> ?_)
    ·simp only[List.mem_range]
     constructor
     ·intro hi
      refine⟨hi,?_⟩
      simp[Array.getD_eq_getD_getElem?,hi]
     ·exact fun h=>h.1
    ·rw[hmap] at hR'
     rcases hcd with hcd|hcd
     ·exact⟨base,⟨z3I.refl _ _,fun x=>x,fun _=>rfl⟩,_,z0Sb gs hcd (z6Pa keep hR') hgs,hq⟩
     ·obtain⟨b',e1,e2,e3⟩:=z8wc gs hcd.1 (z6Pa keep hR') hgs
      exact⟨b',⟨e1,fun _=>e2,fun h=>absurd h hcd.2⟩,_,e3,hq⟩
 ·cases hc

theorem z4Zc {a b:Bool} {p:Prop} (h:(a&&b)=true∨p):a=true∨p:=h.imp (fun h=>by simp only[Bool.and_eq_true] at h;exact h.1) id
theorem z6Zc {a b:Bool} {p:Prop} (h:(a&&b)=true∨p):b=true∨p:=h.imp (fun h=>by simp only[Bool.and_eq_true] at h;exact h.2) id
theorem z5Ja:∀(c:z1c) (x:Code) (r:Option Nat) (m:Nat) (Q:z5c→ASt→Prop) (base:z4f) (st:ASt) (a:Act) (w:World),z8ra K n c x=true→(∀p∈z4a c,VB K p)→z9Aa c=true→(z2Ga c=true∨(z2Xb K base∧¬Cd))→awp K.E c Q st→Rel K base n st a w→x.wpIn (WF r) m K.P (z8Pb K Cd base n Q) a w
 | .ghost g c,x,r,m,Q,base,st,a,w,hc,hv,hf,hcd,h,hR=>by
  simp only[z8ra] at hc
  simp only[awp] at h
  have hf':z9Aa c=true:=by simpa only[z9Aa] using hf
  rcases hcd with hcd|hcd
  ·simp only[z2Ga,Bool.and_eq_true] at hcd
   exact z5Ja c x r m Q base _ a w hc hv hf' (.inl hcd.2) h.2 (z8Pa g hcd.1 hR h.1)
  ·obtain⟨b',e1,e2,e3⟩:=z68b g hcd.1 hR h.1
   exact wpIn_mono (z5Ja c x r m Q b' _ a w hc hv hf' (.inr ⟨e2,hcd.2⟩) h.2 e3) (z7Ob e1 (fun _=>e2) fun h=>absurd h hcd.2)
 | .skip,x,r,m,Q,base,st,a,w,hc,hv,hf,hcd,h,hR=>by
  simp only[z8ra] at hc
  simp only[awp] at h
  split at hc
  ·exact wpIn_skip ⟨base,⟨z3I.refl _ _,fun x=>x,fun _=>rfl⟩,st,hR,h⟩
  ·exact wpIn_label ⟨base,⟨z3I.refl _ _,fun x=>x,fun _=>rfl⟩,st,hR,h⟩
  ·cases hc
 | .exit id,x,r,m,Q,base,st,a,w,hc,hv,hf,hcd,h,hR=>by
  simp only[z8ra] at hc
  simp only[awp] at h
  split at hc
  ·simp only[beq_iff_eq] at hc
   subst hc
   exact wpIn_exit ⟨base,⟨z3I.refl _ _,fun x=>x,fun _=>rfl⟩,st,hR,h⟩
  ·cases hc
 | .ret,x,r,m,Q,base,st,a,w,hc,hv,hf,hcd,h,hR=>by
  simp only[z8ra] at hc
  simp only[awp] at h
  split at hc
  ·exact wpIn_ret ⟨base,⟨z3I.refl _ _,fun x=>x,fun _=>rfl⟩,st,hR,h⟩
  ·cases hc
 | .bad,x,r,m,Q,base,st,a,w,hc,hv,hf,hcd,h,hR=>by
  simp only[awp] at h
 | .alt p q,x,r,m,Q,base,st,a,w,hc,hv,hf,hcd,h,hR=>by
  simp only[z8ra,Bool.and_eq_true] at hc
  simp only[awp] at h
  simp only[z4a,List.mem_append] at hv
  simp only[z9Aa,Bool.and_eq_true] at hf
  rcases h with h|h
  ·exact z5Ja p x r m Q base st a w hc.1 (fun f hf=>hv f (.inl hf)) hf.1 (z4Zc hcd) h hR
  ·exact z5Ja q x r m Q base st a w hc.2 (fun f hf=>hv f (.inr hf)) hf.2 (z6Zc hcd) h hR
 | .region keep gs xs,x,r,m,Q,base,st,a,w,hc,hv,hf,hcd,h,hR=>z1vc hc hv hcd h hR
 | .seq p q,x,r,m,Q,base,st,a,w,hc,hv,hf,hcd,h,hR=>by
  simp only[z8ra] at hc
  simp only[awp] at h
  simp only[z4a,List.mem_append] at hv
  simp only[z9Aa,Bool.and_eq_true] at hf
  split at hc
  ·rename_i y z
   simp only[Bool.and_eq_true] at hc
   refine wpIn_seq (wpIn_mono (z5Ja p y r m _ base st a w hc.1 (fun f hf=>hv f (.inl hf)) hf.1 (z4Zc hcd) h hR) ?_)
   intro e a' w' hl
   cases e<;>simp only[z8Pb] at hl<;>simp only[Exit.then]
   ·obtain⟨b',⟨hE,hE',hE2⟩,st',hR',hq⟩:=hl
    exact wpIn_mono (z5Ja q z r m Q b' st' a' w' hc.2 (fun f hf=>hv f (.inr hf)) hf.2 ((z6Zc hcd).imp (fun h=>h) fun h=>⟨hE' h.1,h.2⟩) hq hR') (z7Ob hE hE' hE2)
   ·exact hl
   ·exact hl
  ·cases hc
 | .cond c p q,x,r,m,Q,base,st,a,w,hc,hv,hf,hcd,h,hR=>by
  simp only[z8ra] at hc
  simp only[awp] at h
  simp only[z4a,List.mem_append] at hv
  simp only[z9Aa,Bool.and_eq_true] at hf
  split at hc
  ·rename_i c' y z
   simp only[Bool.and_eq_true] at hc
   obtain⟨⟨hcc,hy⟩,hz⟩:=hc
   obtain⟨hb,ht,hf'⟩:=h
   have hR':=hR
   obtain⟨g,hI,hS,_⟩:=hR'
   obtain⟨_,hval⟩:=z7sb (z3qa hI hS hcc) hb
   refine wpIn_cond_split hval (fun e=> ?_) (fun e=> ?_)
   ·exact z5Ja p y r m Q base st a w hy (fun f hf=>hv f (.inl hf)) hf.1 (z4Zc hcd) (ht e) hR
   ·exact z5Ja q z r m Q base st a w hz (fun f hf=>hv f (.inr hf)) hf.2 (z6Zc hcd) (hf' e) hR
  ·cases hc
 | .scope b,x,r,m,Q,base,st,a,w,hc,hv,hf,hcd,h,hR=>by
  simp only[z8ra] at hc
  simp only[awp] at h
  simp only[z9Aa] at hf
  split at hc
  ·rename_i p
   refine z26b (wpIn_mono (z5Ja b p r m Q base st a w hc hv hf hcd h hR) ?_)
   intro e a' w' hl
   cases e<;>simp only[z8Pb] at hl<;>exact hl
  ·cases hc
 | .block id b,x,r,m,Q,base,st,a,w,hc,hv,hf,hcd,h,hR=>by
  simp only[z8ra] at hc
  simp only[awp] at h
  simp only[z9Aa] at hf
  split at hc
  ·rename_i id' p
   simp only[Bool.and_eq_true,beq_iff_eq] at hc
   obtain⟨rfl,hp⟩:=hc
   refine wpIn_block (wpIn_mono (z5Ja b p r m _ base st a w hp hv hf hcd h hR) ?_)
   intro e a' w' hl
   cases e<;>simp only[z8Pb] at hl<;>simp only[Exit.inBlock]
   ·exact hl
   ·rename_i id'
    obtain⟨b',hE,st',hR',hq⟩:=hl
    simp only[z9v] at hq
    split
    ·rename_i he
     rw[if_pos he] at hq
     exact⟨b',hE,st',hR',hq⟩
    ·rename_i he
     rw[if_neg he] at hq
     exact⟨b',hE,st',hR',hq⟩
   ·exact hl
  ·cases hc
 | .loop b,x,r,m,Q,base,st,a,w,hc,hv,hf,hcd,h,hR=>by
  simp only[z8ra] at hc
  simp only[awp] at h
  simp only[z9Aa] at hf
  split at hc
  ·rename_i p
   obtain⟨I,⟨k,hm⟩,hround⟩:=h
   refine z2tb (fun k a w=>∃b',(z3I K base b'∧(z2Xb K base→z2Xb K b')∧(Cd→b'=base))∧∃st,Rel K b' n st a w∧I k st) ⟨base,⟨z3I.refl _ _,fun x=>x,fun _=>rfl⟩,st,hR,hm⟩ fun k a w hj=> ?_
   obtain⟨b',⟨hE,hE',hE2⟩,st',hR',hI⟩:=hj
   refine wpIn_mono (z5Ja b p r m _ b' st' a w hc hv hf (hcd.imp (fun h=>h) fun h=>⟨hE' h.1,h.2⟩) (hround _ st' hI) hR') ?_
   intro e a' w' hl
   have hl:=z7Ob hE hE' hE2 e a' w' hl
   cases e<;>simp only[z8Pb] at hl<;>simp only[Exit.then]
   ·obtain⟨b2,hE2,st2,hR2,m',hlt,hI'⟩:=hl
    exact⟨m',hlt,b2,hE2,st2,hR2,hI'⟩
   ·exact hl
   ·exact hl
  ·cases hc
 | .range f t ks ps as bd,x,r,m,Q,base,st,a,w,hc,hv,hf,hcd,h,hR=>by
  simp[z9Aa] at hf
theorem z6Yb {ops:Array Oper} {base:z4f} {Q:Exit→Act→World→Prop} {r:Option Nat} {q:Nat} {rest:List Nat}:∀(xs:List z6a) (s:Nat) (st:ASt) (a:Act) (w:World),z39a K n ops ((ops.toList.drop s).take xs.length) xs=true→(∀x∈xs,VOk K x.op)→Rel K base n st a w→
  z5t K.E xs st→(∀a' w',Rel K base n (z8I K.E xs st) a' w'→wpOpsIn (WF r) q K.P ops Q rest a' w')→wpOpsIn (WF r) q K.P ops Q (List.range' s xs.length++rest) a w
 |[],s,st,a,w,_,_,hR,_,hn=>by simpa using hn a w hR
 |x::xs,s,st,a,w,hc,hV,hR,hok,hn=>by
  cases hd:ops.toList.drop s with
  |nil=>rw[hd] at hc;simp[z39a] at hc
  |cons o os=>
   rw[hd] at hc
   simp only[List.length_cons,List.take_succ_cons,z39a,Bool.and_eq_true] at hc
   have hs:s<ops.size:=by
    have:(ops.toList.drop s).length≠0:=by rw[hd];simp
    simp at this;omega
   have ho:ops[s]? =some o:=by
    have:(ops.toList.drop s)[0]? =some o:=by rw[hd];rfl
    rw[List.getElem?_drop] at this
    simpa using this
   have hos:ops.toList.drop (s+1)=os:=by
    rw[←List.drop_drop,hd];rfl
   rw[List.length_cons,List.range'_succ,List.cons_append,wpOpsIn_cons]
   refine z1Rb (oper:=o) (o:=x) hR ho hc.1 hok.1 (hV x (by simp)) fun a' w' hR'=> ?_
   exact z6Yb xs (s+1) _ a' w' (by rw[hos];exact hc.2) (fun y hy=>hV y (by simp[hy])) hR' hok.2 hn
theorem z2Vc {Cd:Prop} {base:z4f} {Q:z5c→ASt→Prop}:∀e a w,z8Pb K Cd base n Q e a w→z8Sb K base n Q e a w:=by
 intro e a w h
 cases e<;>simp only[z8Pb] at h<;>simp only[z8Sb]
 all_goals (obtain⟨b,⟨hb,_⟩,r⟩:=h;exact⟨b,hb,r⟩)
end
end Go.Abs
end

section
namespace Go.Abs

inductive z7M where
 |t (s:Nat)
 |cell (s:Nat) (k:Option Nat) (id:Nat)
 |o (s:Nat)
 deriving Inhabited

structure z1ka where
 n:Nat
 wr:List Nat:=[]
 body:z1c
 res:List z7M

def z4e (i:Nat):List z0a→List (Nat×z0a)
 |[]=>[]
 |d::ds=>(i,d)::z4e (i+1) ds
def z4H (wr:List Nat) (ds:List z0a):ASt:=
 {org:=(z4e 0 ds).filter fun p=> !wr.contains p.1
  env:=((z4e 0 ds).filter fun p=>wr.contains p.1).map fun p=>(p.1,dem p.2)
  box:=[]}

def z97 (st:ASt):z7M→z0a
 | .t s=>dem (st.get s)
 | .o s=>dem (st.get s)
 | .cell s k id=>match k with
  |none=>dem (hdA (z6d st.getB (some id) (st.get s)))
  |some n=> .agg ((z6d st.getB (some id) (st.get s)).take n)
def z6K (st:ASt):z7M→Prop
 | .t _=>True
 | .o _=>True
 | .cell s k id=>z1o st.getB (some id) (k.getD 1) (st.get s)
def z1K (st:ASt):List z7M→z0a
 |[.t s]=>st.get s
 |[r]=>z97 st r
 |rs=> .tup (rs.map (z97 st))
def z0X (d:z0a) (rest:List z0a):z0a:=match d with| .sl (.own e) nl n cs=> .otup e nl n cs rest|d=> .tup (dem d::rest)
def z8Bc (st:ASt) (rs:List z7M):z0a:=match rs with
 | .o s::r::rs=>z0X (st.get s) ((r::rs).map (z97 st))
 |rs=>z1K st rs

def z6va (res:List z7M) (v:z0a):z5c→ASt→Prop
 | .normal,st| .ret,st=>(∀r∈res,z6K st r)∧z8Bc st res=v∧z0b v=true
 |_,_=>False

def z5cb (K:Cx):List z7M→List ResultVar→Bool
 |[],[]=>true
 | .t s::rs,.tmp t::vs=>(s==t)&&z5cb K rs vs
 | .o s::rs,.tmp t::vs=>(s==t)&&z5cb K rs vs
 | .cell s k _::rs,.cell t ty::vs=>(s==t)&&z8Mc K.P ty k&&(match k with|some n=>n !=0|none=>true)&&z5cb K rs vs
 |_,_=>false

def z3ta (K:Cx) (f:z1ka) (fn:Func):Bool:=
 !(fn.name== "runtime.NumGoroutine")&&(match fn.body with|some c=>z8ra K fn.ntmps f.body c|none=>false)&&z5cb K f.res fn.results.toList&&decide (f.n≤fn.ntmps)

section
variable {K : Cx} {base : z4f} {n : Nat} {st : ASt} {a : Act} {w : World}

theorem z5a.len {K:Con} {S:Nat→Nat} {w:World}:∀{ds:List z0a} {vs:List Value},z5a K S w ds vs→ds.length=vs.length
 |[],_,h=>by simp only[z5a] at h;subst h;rfl
 |_::_,_,h=>by
  simp only[z5a] at h
  obtain⟨x,xs,rfl,_,h2⟩:=h
  simp[z5a.len h2]
theorem z5a.get {K:Con} {S:Nat→Nat} {w:World}:∀{ds:List z0a} {vs:List Value},z5a K S w ds vs→∀(i:Nat) (d:z0a),ds[i]? =some d→∃v,vs[i]? =some v∧z9b K S w d v
 |[],_,h,i,d,hd=>by simp at hd
 |c::cs,l,h,i,d,hd=>by
  simp only[z5a] at h
  obtain⟨x,xs,rfl,h1,h2⟩:=h
  cases i with
  |zero=>simp at hd;subst hd;exact⟨x,by simp,h1⟩
  |succ i=>simp at hd;obtain⟨v,hv,hr⟩:=z5a.get h2 i d hd;exact⟨v,by simpa using hv,hr⟩

theorem z39b:∀(ds:List z0a) (i s:Nat),lk (z4e i ds) s=if i≤s then ds[s-i]? else none
 |[],i,s=>by simp[z4e,lk]
 |d::ds,i,s=>by
  simp only[z4e,lk]
  by_cases h:s=i
  ·subst h;simp
  ·rw[if_neg h,z39b ds (i+1) s]
   by_cases hi:i≤s
   ·rw[if_pos hi,if_pos (by omega),show s-i=(s-(i+1))+1 by omega]
    simp
   ·rw[if_neg hi,if_neg (by omega)]

theorem z9fc (wr:List Nat) (ds:List z0a) (s:Nat):lk (z4H wr ds).org s=if s∈wr then none else ds[s]? :=by
 have:(z4H wr ds).org=(z4e 0 ds).filter fun p=>(fun k=> !wr.contains k) p.1:=rfl
 rw[this,z9Ba (fun k=> !wr.contains k),z39b]
 by_cases h:s∈wr<;>simp[h]
theorem z0ed (wr:List Nat) (ds:List z0a) (s:Nat):lk (z4H wr ds).env s=if s∈wr then(ds[s]?).map dem else none:=by
 have:(z4H wr ds).env=((z4e 0 ds).filter fun p=>(fun k=>wr.contains k) p.1).map fun p=>(p.1,dem p.2):=rfl
 rw[this,z48b dem,z9Ba (fun k=>wr.contains k),z39b]
 by_cases h:s∈wr<;>simp[h]

theorem z9ed (wr:List Nat) {S:Nat→Nat} {ds:List z0a} {vs:List Value} (hg:∀n∈K.N.gs,z4b K.toCon S w (K.E.T n) (K.N.gnum n) 0) (h:z5a K.toCon S w ds vs) (m:Nat) (hm:vs.length+m=n):
  Rel K ⟨w,fun _=>False,S,[],fun _=>none⟩ n (z4H wr ds) {tmps:=vs.toArray++Array.replicate m undef,defers:=[]} w:=by
 have hlen:=h.len
 have hget:∀s d,ds[s]? =some d→z9b K.toCon S w d ((vs.toArray++Array.replicate m undef).getD s undef):=fun s d hd=>by
  obtain⟨v,hv,hr⟩:=h.get s d hd
  have hs:s<vs.length:=(List.getElem?_eq_some_iff.1 hv).1
  rw[Array.getD_eq_getD_getElem?,Array.getElem?_append_left (by simpa using hs)]
  simpa[hv] using hr
 have hk:z9d S w (z4f.S ⟨w,fun _=>False,S,[],fun _=>none⟩) w:=fun b i x hi hc=>by
  refine⟨?_,hc⟩
  have hb:b<w.heap.size:=World.block_lt_of_cell? w ⟨b,i,none⟩ hc
  unfold z4f.S
  rw[if_pos ⟨hb,fun h=>h⟩]
  exact hi
 refine⟨{S:=S,ow:=fun _=>none,mu:=fun _=>none},{fr:=Fr.refl _ _ _,sS:=fun _ _ _=>rfl,inj:=fun _ _ _ h _=>(by cases h),bxok:=fun id cs h=>by simp[ASt.getB,z4H,lk] at h,nobx:=fun _ _=>rfl,muW:=fun _ _ h=>(by cases h),owW:=fun _ _ h=>(by cases h),glob:=hg,kp:=z9d.refl _ _,obok:=fun _ _ _ _ h=>(by cases h),old:=fun _ _ _ _ h=>(by cases h)},fun s=> ?_,fun s d hs=> ?_,rfl,by simp;exact hm⟩
 ·unfold ASt.get
  rw[z0ed,z9fc]
  by_cases hs:s∈wr
  ·rw[if_pos hs]
   cases hd:ds[s]? with
   |none=>simp[hs,Abs.dem,Rep]
   |some d=>simp only[Option.map_some];exact z9b.dem (g:=⟨S,_,_⟩) _ (hget s d hd)
  ·rw[if_neg hs,if_neg hs]
   cases hd:ds[s]? with
   |none=>simp[Abs.dem,Rep]
   |some d=>exact z9b.dem (g:=⟨S,_,_⟩) _ (hget s d hd)
 ·rw[z9fc] at hs
  split at hs
  ·cases hs
  ·exact z9b.mono hk d _ (hget s d hs)

theorem z69b {P:Program} {t:TypeId} {k:Option Nat} (hk:z8Mc P t k=true) {bk o:Nat} {vs:List Value} (hr:w.rangeAt bk o vs) (hn:k.getD 1≤vs.length):
  (loadVar t ⟨bk,o,none⟩).run P w= .ok (z0nc k vs) w:=by
 unfold z0nc
 cases k with
 |none=>
  simp only[z8Mc,Bool.and_eq_true] at hk
  obtain⟨D,hu,hD⟩:=z7ya hk.1
  cases vs with
  |nil=>simp at hn
  |cons v r=>
   have h0:=hr 0 v (by simp)
   simp only[Nat.add_zero] at h0
   cases D<;>simp[TypeDesc.isRow] at hD<;>simp[loadVar,isAgg,run_underlying hu,h0]
 |some n=>
  simp only[z8Mc,Bool.and_eq_true] at hk
  obtain⟨D,hu,hD⟩:=z7ya hk.1
  simp only[Option.getD_some] at hn
  exact run_loadVar_mid w bk o t (vs.take n) D (fun j v hv=>by
   rw[List.getElem?_take] at hv
   split at hv
   ·exact hr j v hv
   ·cases hv) hu hD (by rw[List.length_take,Nat.min_eq_left hn];exact z50b hk.2)

def z0ib (tmps:Array Value):ResultVar→Sem Value
 | .tmp t=>pure (tmps.getD t undef)
 | .cell a t=>do loadVar t (←asAddr (tmps.getD a undef))

theorem z6Qb {g:Gh} (hI:Inv K base g w st.getB) (hS:z3v K g w st.get a):∀{rs:List z7M} {vs:List ResultVar},z5cb K rs vs=true→(∀r∈rs,z6K st r)→
  ∃xs,(List.mapM (z0ib a.tmps) vs).run K.P w= .ok xs w∧z2b K.toCon g w (rs.map (z97 st)) xs∧(∀s,rs=[.t s]→xs=[a.tmps.getD s undef])∧(∀s r',rs= .o s::r'→∃ys,xs=a.tmps.getD s undef::ys)
 |[],[],_,_=>⟨[],by simp,by simp[z2b],by simp,by simp⟩
 |[],_::_,h,_=>by simp[z5cb] at h
 | .t _::_,[],h,_=>by simp[z5cb] at h
 | .o _::_,[],h,_=>by simp[z5cb] at h
 | .o _::rs,.cell _ _::vs,h,_=>by simp[z5cb] at h
 | .cell _ _ _::_,[],h,_=>by simp[z5cb] at h
 | .t s::rs,.cell _ _::vs,h,_=>by simp[z5cb] at h
 | .cell _ _ _::rs,.tmp _::vs,h,_=>by simp[z5cb] at h
 | .t s::rs,.tmp t::vs,h,hok=>by
  simp only[z5cb,Bool.and_eq_true,beq_iff_eq] at h
  obtain⟨rfl,h⟩:=h
  obtain⟨xs,h1,h2,h3⟩:=z6Qb hI hS h (fun r hr=>hok r (by simp[hr]))
  refine⟨a.tmps.getD s undef::xs,?_,?_,fun s' hs'=> ?_,fun s' r' hs'=>by simp at hs'⟩
  ·simp only[List.mapM_cons,z0ib,Sem.run_bind,Sem.run_pure,Result.andThen_ok,h1]
  ·simp only[List.map_cons,z2b,z97]
   exact⟨_,_,rfl,Rep.dem _ (hS s),h2⟩
  ·simp only[List.cons.injEq,z7M.t.injEq] at hs'
   obtain⟨rfl,rfl⟩:=hs'
   have:=h2.len
   simp at this
   rw[List.length_eq_zero_iff.1 this.symm]
 | .o s::rs,.tmp t::vs,h,hok=>by
  simp only[z5cb,Bool.and_eq_true,beq_iff_eq] at h
  obtain⟨rfl,h⟩:=h
  obtain⟨xs,h1,h2,h3⟩:=z6Qb hI hS h (fun r hr=>hok r (by simp[hr]))
  refine⟨a.tmps.getD s undef::xs,?_,?_,fun s' hs'=>by simp at hs',fun s' r' hs'=> ?_⟩
  ·simp only[List.mapM_cons,z0ib,Sem.run_bind,Sem.run_pure,Result.andThen_ok,h1]
  ·simp only[List.map_cons,z2b,z97]
   exact⟨_,_,rfl,Rep.dem _ (hS s),h2⟩
  ·simp only[List.cons.injEq,z7M.o.injEq] at hs'
   obtain⟨rfl,rfl⟩:=hs'
   exact⟨xs,rfl⟩
 | .cell s k id::rs,.cell t ty::vs,h,hok=>by
  simp only[z5cb,Bool.and_eq_true,beq_iff_eq] at h
  obtain⟨⟨⟨rfl,hk⟩,hn0⟩,h⟩:=h
  obtain⟨xs,h1,h2,h3⟩:=z6Qb hI hS h (fun r hr=>hok r (by simp[hr]))
  have hpos:0<k.getD 1:=by
   cases k with
   |none=>simp
   |some n=>simp at hn0⊢;omega
  have hok1:=hok (.cell s k id) (by simp)
  simp only[z6K] at hok1
  obtain⟨bk,off,ws,hv,hr,hrl,hn⟩:=z2Ec hI hok1 hpos (z7gb (hS s))
  refine⟨z0nc k ws::xs,?_,?_,fun s' hs'=>by simp at hs',fun s' r' hs'=>by simp at hs'⟩
  ·simp only[List.mapM_cons,z0ib,Sem.run_bind,hv,asAddr,Sem.run_pure,Result.andThen_ok,z69b hk hr hn,h1]
  ·simp only[List.map_cons,z2b,z97]
   refine⟨_,_,rfl,?_,h2⟩
   cases k with
   |some n=>simp only[Rep,z0nc];exact⟨_,rfl,by simpa using hrl.take n⟩
   |none=>
    simp only[z0nc]
    cases hcs:z6d st.getB (some id) (st.get s) with
    |nil=>have:=hrl.len;rw[hcs] at this;simp at this hn;omega
    |cons c cs=>
     rw[hcs] at hrl
     simp only[z2b] at hrl
     obtain⟨v,r,rfl,h1,_⟩:=hrl
     exact Rep.dem _ h1

def z1Lc (K:Cx) (b:z1c):Prop:=∀(n:Nat) (x:Code) (Q:z5c→ASt→Prop) (base:z4f) (st:ASt) (a:Act) (w:World),z8ra K n b x=true→(z2Ga b=true∨z2Xb K base)→awp K.E b Q st→Rel K base n st a w→x.wpIn (WF none) 0 K.P (z8Sb K base n Q) a w
theorem z8ob {b:z1c} (hv:∀p∈z4a b,VB K p) (hf:z9Aa b=true):z1Lc K b:=fun n x Q base st a w hc ht h hR=>wpIn_mono (z5Ja (Cd:=False) b x none 0 Q base st a w hc hv hf (ht.imp (fun h=>h) fun h=>⟨h,fun h=>h⟩) h hR) z2Vc
theorem z3Yc {b:z1c} (hv:∀p∈z4a b,VB K p) (hi:∀f∈z1Ua b,z3La K f (K.E.I f)) (hfl:z68a b=true) (ht:(z2Ga b||z9Aa b)=true):z1Lc K b:=fun n x Q base st a w hc hF h hR=>by
 cases hcold:z2Ga b with
 |true=>exact z5Ea b x none 0 _ _ _ _ w hc hv hi (.inr ⟨rfl,hfl⟩) hcold h hR
 |false=>
  rw[hcold,Bool.false_or] at ht
  exact z8ob hv ht n x Q base st a w hc hF h hR
theorem z8Lb {f:Nat} {fn:Func} {F:z1ka} {c:z1f} (hf:K.P.funcs[K.nu f]? =some fn) (hc:z3ta K F fn=true) (hs:z1Lc K F.body)
  (h:∀ds,c.pre ds→ds.length=F.n∧awp K.E F.body (z6va F.res (c.post ds)) (z4H F.wr ds)):z1a K f c:=by
 simp only[z3ta,Bool.and_eq_true,Bool.not_eq_true',decide_eq_true_eq] at hc
 obtain⟨⟨⟨hname,hbody⟩,hres⟩,hsz⟩:=hc
 cases hb:fn.body with
 |none=>rw[hb] at hbody;cases hbody
 |some code=>
  rw[hb] at hbody
  simp only at hbody
  refine⟨⟨fn,hf,by rw[hb];rfl,hname⟩,fun S w ds vs hg hds hpre=> ?_⟩
  obtain⟨hlen,hw⟩:=h ds hpre
  have hl2:=hds.len
  refine callsIn_wide.1 (callsIn_of_wp_marks (F:=WF none) (n:=0) hf hb (z9dc none _) ?_)
  have hR:=z9ed (n:=fn.ntmps) F.wr hg hds (fn.ntmps-vs.length) (by omega)
  have hwp:=hs fn.ntmps code _ _ _ _ w hbody (.inr ⟨fun _ h=>False.elim h,hg⟩) hw hR
  simp only[List.size_toArray]
  refine wpIn_mono hwp fun e a' w' hl=> ?_
  have fin:∀st g w',Inv K ⟨w,fun _=>False,S,[],fun _=>none⟩ g w' st.getB→z3v K g w' st.get a'→((∀r∈F.res,z6K st r)∧z8Bc st F.res=c.post ds∧z0b (c.post ds)=true)→
    ∃v,(results fn a'.tmps).run K.P w'= .ok v w'∧∃v' g',Ending.returned v= .returned v'∧Fr w.heap.size (fun _=>False) w w'∧Rep K.toCon g' w' (some .ret) (c.post ds) v'∧
     (∀b l,g'.ow b=some l→w.heap.size≤b∧b<w'.heap.size)∧∀b,b<w.heap.size→g'.S b=S b:=fun st g w' hI hS hq=>by
   obtain⟨hok,hval,hpure⟩:=hq
   obtain⟨xs,h1,h2,h3,h3o⟩:=z6Qb hI hS hres hok
   have hmap:fn.results.mapM (z0ib a'.tmps)=Functor.map List.toArray (fn.results.toList.mapM (z0ib a'.tmps)):=by
    exact Array.mapM_eq_mapM_toList
   have hrun:(results fn a'.tmps).run K.P w'= .ok (if h:xs.toArray.size=1 then xs.toArray[0] else .tuple xs.toArray) w':=by
    have:results fn a'.tmps=(do
     let vs←fn.results.mapM (z0ib a'.tmps)
     pure (if h:vs.size=1 then vs[0] else .tuple vs)):=rfl
    rw[this,hmap]
    simp only[map_eq_pure_bind,Sem.run_bind,h1,Result.andThen_ok,Sem.run_pure]
   refine⟨_,hrun,?_⟩
   have how:∀b l,g.ow b=some l→w.heap.size≤b∧b<w'.heap.size:=fun b l hb=>by
    obtain⟨k1,k2⟩:=hI.owW b l hb
    exact⟨k1.resolve_right (fun h=>h),k2⟩
   have hSb:∀b,b<w.heap.size→g.S b=S b:=fun b hb=>hI.sS b hb (fun h=>h)
   by_cases hone:∃s,F.res=[.t s]
   ·obtain⟨s,hs⟩:=hone
    have hx:=h3 s hs
    subst hx
    rw[hs] at hval
    simp only[z8Bc,z1K] at hval
    refine⟨a'.tmps.getD s undef,z2Va g (.slot s) .ret,by simp,hI.fr,?_,fun b l hb=> ?_,hSb⟩
    ·rw[←hval];exact z6Fa (hS s)
    ·simp only[z2Va] at hb
     split at hb
     ·rename_i he;exact how b _ he
     ·exact how b l hb
   ·have hl3:=h2.len
    simp only[List.length_map] at hl3
    have rest:∀{d:z0a} {v:Value},Rep K.toCon g w' none d v→z5b d=false→d=c.post ds→Rep K.toCon g w' (some .ret) (c.post ds) v:=fun {d v} hr ho he=>by
     rw[←he];exact z29a _ ho hr
    have hdem:∀d:z0a,z5b (dem d)=false:=z12a
    cases hF:F.res with
    |nil=>
     rw[hF] at h2 hval hl3
     simp only[List.map_nil,z2b] at h2
     subst h2
     refine⟨_,g,rfl,hI.fr,?_,how,hSb⟩
     refine rest (d:= .tup []) ?_ rfl (by rw[←hval];rfl)
     simp[Rep,z2b]
    |cons r rs=>
     rw[hF] at h2 hval hl3 hone
     cases rs with
     |nil=>
      simp only[List.map_cons,List.map_nil,z2b] at h2
      obtain⟨x,ys,rfl,h4,rfl⟩:=h2
      refine⟨x,g,by simp,hI.fr,?_,how,hSb⟩
      cases r with
      |t s=>exact absurd ⟨s,rfl⟩ hone
      |o s=>
       simp only[z8Bc,z1K] at hval
       exact rest h4 (hdem _) hval
      |cell s k id=>
       simp only[z8Bc,z1K] at hval
       refine rest h4 ?_ hval
       cases k with
       |none=>exact hdem _
       |some n=>rfl
     |cons r2 rs=>
      have h5:¬(xs.toArray.size=1):=by simp only[List.size_toArray,←hl3,List.length_cons];omega
      have dflt:c.post ds= .tup ((r::r2::rs).map (z97 st))→∃v' g',(.returned (if h:xs.toArray.size=1 then xs.toArray[0] else .tuple xs.toArray):Ending)= .returned v'∧Fr w.heap.size (fun _=>False) w w'∧Rep K.toCon g' w' (some .ret) (c.post ds) v'∧
        (∀b l,g'.ow b=some l→w.heap.size≤b∧b<w'.heap.size)∧∀b,b<w.heap.size→g'.S b=S b:=fun he=>by
       refine⟨.tuple xs.toArray,g,by rw[dif_neg h5],hI.fr,?_,how,hSb⟩
       refine rest (d:= .tup ((r::r2::rs).map (z97 st))) ?_ rfl he.symm
       simp only[Rep]
       exact⟨_,rfl,by simpa using h2⟩
      cases r with
      |t s=>exact dflt (by rw[←hval];rfl)
      |cell s k id=>exact dflt (by rw[←hval];rfl)
      |o s=>
       have hval':z0X (st.get s) ((r2::rs).map (z97 st))=c.post ds:=hval
       unfold z0X at hval'
       split at hval'
       ·rename_i e nl n cs hget
        obtain⟨ys,hys⟩:=h3o s _ hF
        have hm:=z6Fa (l1:= .ret) (z3Gb hS s)
        rw[hget] at hm
        simp only[Rep] at hm
        simp only[List.map_cons,z2b] at h2
        obtain⟨x,zs,hx,_,h6⟩:=h2
        rw[hys] at hx
        simp only[List.cons.injEq] at hx
        obtain⟨rfl,rfl⟩:=hx
        refine⟨.tuple xs.toArray,z2Va g (.slot s) .ret,by rw[dif_neg h5],hI.fr,?_,fun b l hb=> ?_,hSb⟩
        ·rw[←hval']
         simp only[Rep]
         refine⟨xs.toArray,_,ys,rfl,hys,hm,?_⟩
         exact z2b.mono (g:=g) (g':=z2Va g (.slot s) .ret) (z9d.refl g.S w') ((r2::rs).map (z97 st)) ys (fun _ _ _ h=>h) (by simpa[z2b] using h6)
        ·simp only[z2Va] at hb
         split at hb
         ·rename_i he;exact how b _ he
         ·exact how b l hb
       ·rename_i d hd
        exact dflt (by rw[←hval'];rfl)
  cases e<;>simp only[z8Sb] at hl<;>simp only[bodyPostM]
  ·obtain⟨b',hE,st,hR',hq⟩:=hl
   exact z7Lc hE rfl hR' fun g w' hI hS hO=>fin st g w' hI hS hq
  ·obtain⟨b',hE,st,_,hq⟩:=hl
   exact hq
  ·obtain⟨b',hE,st,hR',hq⟩:=hl
   exact z7Lc hE rfl hR' fun g w' hI hS hO=>fin st g w' hI hS hq

theorem z1xb {f:Nat} {fn:Func} {F:z1ka} {c:z1f} (hf:K.P.funcs[K.nu f]? =some fn) (hc:z3ta K F fn=true) (hv:∀p∈z4a F.body,VB K p)
  (h:∀ds,c.pre ds→ds.length=F.n∧awp K.E F.body (z6va F.res (c.post ds)) (z4H F.wr ds)) (hi:∀f∈z1Ua F.body,z3La K f (K.E.I f)) (hfl:z68a F.body=true) (ht:(z2Ga F.body||z9Aa F.body)=true):z1a K f c:=z8Lb hf hc (z3Yc hv hi hfl ht) h
theorem z3rb {f:Nat} {fn:Func} {F:z1ka} {c:z1f} (hf:K.P.funcs[K.nu f]? =some fn) (hc:z3ta K F fn=true) (hv:∀p∈z4a F.body,VB K p)
  (h:∀ds,c.pre ds→ds.length=F.n∧awp K.E F.body (z6va F.res (c.post ds)) (z4H F.wr ds)) (hfl:z9Aa F.body=true):z1a K f c:=z8Lb hf hc (z8ob hv hfl) h
end
end Go.Abs
end

section
namespace Go.Abs

def z2ga (bx:List Nat):Nat→List z0a→List (Nat×z0a)
 |_,[]=>[]
 |i,d::ds=>(i,if bx.contains i then .bp i 0 else dem d)::z2ga bx (i+1) ds
def z7la (bx:List Nat) (p:Nat→Value) (ds:List z0a):ASt:=
 {org:=bx.map fun j=>(j,.lit (p j)),env:=z2ga bx 0 ds,box:=bx.map fun j=>(j,some (z4s (ds.getD j .undef)))}

def z8Bd (res:List z7M) (c:CM) (p:Nat→Value) (ds:List z0a):z5c→ASt→Prop
 | .normal,st| .ret,st=>(∀r∈res,z6K st r)∧z1K st res=c.post ds∧(∀j∈c.bx,lk st.org j=some (.lit (p j))∧st.get j= .bp j 0)∧(∀j∈c.bx++c.nb,st.getB j=some (c.out ds j))∧
  (∀id∈z3d (c.post ds),id∈c.bx++c.nb)∧(∀j∈c.bx++c.nb,∀id∈z6b (c.out ds j),id∈c.bx++c.nb)
 |_,_=>False

section
variable {K : Cx} {base : z4f} {n : Nat} {st : ASt} {a : Act} {w : World}

theorem z5sc (bx:List Nat):∀(ds:List z0a) (i s:Nat),lk (z2ga bx i ds) s=if i≤s then(ds[s-i]?).map fun d=>if bx.contains s then z0a.bp s 0 else dem d else none
 |[],i,s=>by simp[z2ga,lk]
 |d::ds,i,s=>by
  simp only[z2ga,lk]
  by_cases h:s=i
  ·subst h;simp
  ·rw[if_neg h,z5sc bx ds (i+1) s]
   by_cases hi:i≤s
   ·rw[if_pos hi,if_pos (by omega),show s-i=(s-(i+1))+1 by omega]
    simp
   ·rw[if_neg hi,if_neg (by omega)]
theorem z9Fb {α:Type} (f:Nat→α) (s:Nat):∀l:List Nat,lk (l.map fun s=>(s,f s)) s=if s∈l then some (f s) else none
 |[]=>by simp[lk]
 |t::l=>by
  simp only[List.map_cons,lk,List.mem_cons]
  by_cases h:s=t
  ·subst h;simp
  ·rw[if_neg h,z9Fb f s l]
   simp only[h,false_or]

theorem z7Uc {g:Gh} {c:CM} {ds:List z0a} {vs:List Value} (hI:Inv K ⟨w,Wr g,g.S,[],g.mu⟩ g w (c.ins ds)) (hA:z54c K c g w ds vs) (hb:∀j∈c.bx,j<ds.length) (m:Nat) (hm:vs.length+m=n):
  Rel K ⟨w,Wr g,g.S,[],g.mu⟩ n (z7la c.bx (fun j=> .pointer (some ⟨(g.mu j).getD 0,0,none⟩)) ds) {tmps:=vs.toArray++Array.replicate m undef,defers:=[]} w:=by
 obtain⟨hlen,hA⟩:=hA
 have hget:∀s v,vs[s]? =some v→(vs.toArray++Array.replicate m undef).getD s undef=v:=fun s v hv=>by
  have hs:s<vs.length:=(List.getElem?_eq_some_iff.1 hv).1
  rw[Array.getD_eq_getD_getElem?,Array.getElem?_append_left (by simpa using hs)]
  simp[hv]
 have harg:∀s d,ds[s]? =some d→∃v,vs[s]? =some v∧if s∈c.bx then∃b,g.mu s=some b∧v= .pointer (some ⟨b,0,none⟩) else z9b K.toCon g.S w d v:=fun s d hd=>by
  have hs:s<vs.length:=by have:=(List.getElem?_eq_some_iff.1 hd).1;omega
  exact⟨vs[s],List.getElem?_eq_getElem hs,hA s d _ hd (List.getElem?_eq_getElem hs)⟩
 have hgb:(z7la c.bx (fun j=> .pointer (some ⟨(g.mu j).getD 0,0,none⟩)) ds).getB=c.ins ds:=funext fun j=>by
  simp only[ASt.getB,z7la,z9Fb fun j=>some (z4s (ds.getD j .undef)),CM.ins]
  split<;>rfl
 have horg:∀s,lk (z7la c.bx (fun j=> .pointer (some ⟨(g.mu j).getD 0,0,none⟩)) ds).org s=if s∈c.bx then some (.lit (.pointer (some ⟨(g.mu s).getD 0,0,none⟩))) else none:=fun s=>
  z9Fb (fun j=>z0a.lit (.pointer (some ⟨(g.mu j).getD 0,0,none⟩))) s c.bx
 refine⟨g,by rw[hgb];exact hI,fun s=> ?_,fun s d hs=> ?_,rfl,by simp;exact hm⟩
 ·unfold ASt.get
  rw[horg]
  show Rep K.toCon g w (some (.slot s)) (match lk (z2ga c.bx 0 ds) s with|some d=>d|none=>_) _
  rw[z5sc,if_pos (Nat.zero_le _),Nat.sub_zero]
  cases hd:ds[s]? with
  |none=>
   have hns:s∉c.bx:=fun h=>by have:=hb s h;rw[List.getElem?_eq_none_iff] at hd;omega
   simp[hns,Abs.dem,Rep]
  |some d=>
   obtain⟨v,hv,hr⟩:=harg s d hd
   rw[hget s v hv]
   simp only[Option.map_some,List.contains_iff_mem]
   by_cases hs:s∈c.bx
   ·rw[if_pos hs] at hr⊢
    obtain⟨b,hb,rfl⟩:=hr
    simp only[Rep]
    exact⟨b,hb,rfl⟩
   ·rw[if_neg hs] at hr⊢
    exact z9b.dem (g:=g) _ hr
 ·rw[horg] at hs
  split at hs
  ·rename_i hm
   cases hs
   obtain⟨v,hv,hr⟩:=harg s _ (List.getElem?_eq_getElem (hb s hm))
   rw[if_pos hm] at hr
   obtain⟨b,hb,rfl⟩:=hr
   show z9b _ _ _ _ _
   rw[hget s _ hv]
   simp[z9b,hb]
  ·cases hs

theorem z3Fc {g:Gh} {getB:Nat→Option (List z0a)} (hI:Inv K base g w getB) (js:List Nat) {out:Nat→List z0a} (h1:∀j∈js,getB j=some (out j)) (h2:∀j∈js,∀id∈z6b (out j),id∈js):
  Inv K base {g with mu:=fun j=>if j∈js then g.mu j else none} w (fun j=>if j∈js then some (out j) else none):=by
 refine⟨hI.fr,hI.sS,fun i j b hi hj=> ?_,fun id cs hc=> ?_,fun id hid=> ?_,fun id b hb=> ?_,hI.owW,hI.glob,hI.kp,fun id b cs ho hb hc hd=> ?_,fun id b h3 h4 hb=>by
  replace hb:(if id∈js then g.mu id else none)=some b:=hb
  split at hb
  ·exact hI.old id b h3 h4 hb
  ·cases hb⟩
 ·replace hi:(if i∈js then g.mu i else none)=some b:=hi
  replace hj:(if j∈js then g.mu j else none)=some b:=hj
  split at hi
  ·split at hj
   ·exact hI.inj i j b hi hj
   ·cases hj
  ·cases hi
 ·split at hc
  ·rename_i hm
   cases hc
   obtain⟨b,k1,k2,k3⟩:=hI.bxok id _ (h1 id hm)
   refine⟨b,by simp only[if_pos hm];exact k1,k2,fun i d hi=> ?_⟩
   obtain⟨⟨x,h4,h5⟩,h6⟩:=k3 i d hi
   exact⟨⟨x,h4,Rep.mono (g:=g) (g':={g with mu:=fun j=>if j∈js then g.mu j else none}) (z9d.refl g.S w) d x (some (.cell id i)) (some (.cell id i)) (fun id' hid' b' hb'=>by show(if id'∈js then g.mu id' else none)=some b';rw[if_pos (h2 id hm id' (z7cb (z3ya hi) hid'))];exact hb') (fun m hm=>⟨m,hm,fun b hb=>⟨hb,rfl,fun _ _ h=>h⟩⟩) h5⟩,h6⟩
  ·cases hc
 ·show(if id∈js then g.mu id else none)=none
  replace hid:(if id∈js then some (out id) else none)=none:=hid
  split at hid
  ·cases hid
  ·rename_i hm;rw[if_neg hm]
 ·replace hb:(if id∈js then g.mu id else none)=some b:=hb
  split at hb
  ·exact hI.muW id b hb
  ·cases hb
 ·replace hb:(if id∈js then g.mu id else none)=some b:=hb
  split at hb
  ·rename_i hm
   rw[if_pos hm] at hc
   cases hc
   exact hI.obok id b _ ho hb (h1 id hm) hd
  ·cases hb

theorem z4yc {f:Nat} {fn:Func} {F:z1ka} {c:CM} (hf:K.P.funcs[K.nu f]? =some fn) (hc:z3ta K F fn=true) (hs:z1Lc K F.body) (hb:∀j∈c.bx,j<F.n)
  (h:∀ds p,c.pre ds→ds.length=F.n∧awp K.E F.body (z8Bd F.res c p ds) (z7la c.bx p ds)) (ht:z2Ga F.body=true):z0Na K f c:=by
 simp only[z3ta,Bool.and_eq_true,Bool.not_eq_true',decide_eq_true_eq] at hc
 obtain⟨⟨⟨hname,hbody⟩,hres⟩,hsz⟩:=hc
 cases hbd:fn.body with
 |none=>rw[hbd] at hbody;cases hbody
 |some code=>
  rw[hbd] at hbody
  simp only at hbody
  refine⟨⟨fn,hf,by rw[hbd];rfl,hname⟩,fun g0 w ds vs hI0 hA hpre=> ?_⟩
  obtain⟨hlen,hw⟩:=h ds (fun j=> .pointer (some ⟨(g0.mu j).getD 0,0,none⟩)) hpre
  have hl2:=hA.1
  refine callsIn_wide.1 (callsIn_of_wp_marks (F:=WF none) (n:=0) hf hbd (z9dc none _) ?_)
  have hR:=z7Uc (n:=fn.ntmps) hI0 hA (fun j hj=>by rw[hlen];exact hb j hj) (fn.ntmps-vs.length) (by omega)
  have hwp:=hs fn.ntmps code _ _ _ _ w hbody (.inl ht) hw hR
  simp only[List.size_toArray]
  refine wpIn_mono hwp fun e a' w' hl=> ?_
  have fin:∀st g w',Inv K ⟨w,Wr g0,g0.S,[],g0.mu⟩ g w' st.getB→z3v K g w' st.get a'→(∀j∈c.bx,lk st.org j=some (.lit (.pointer (some ⟨(g0.mu j).getD 0,0,none⟩)))→a'.tmps.getD j undef= .pointer (some ⟨(g0.mu j).getD 0,0,none⟩))→z8Bd F.res c (fun j=> .pointer (some ⟨(g0.mu j).getD 0,0,none⟩)) ds .ret st→
    ∃v,(results fn a'.tmps).run K.P w'= .ok v w'∧∃v' g',Ending.returned v= .returned v'∧Inv K ⟨w,Wr g0,g0.S,[],g0.mu⟩ g' w' (c.outs ds)∧(∀j∈c.bx,g'.mu j=g0.mu j)∧Rep K.toCon g' w' (some .ret) (c.post ds) v':=fun st g w' hI hS hO hq=>by
   obtain⟨hok,hval,hbx,hout,hr1,hr2⟩:=hq
   obtain⟨xs,h1,h2,h3,_⟩:=z6Qb hI hS hres hok
   have hmap:fn.results.mapM (z0ib a'.tmps)=Functor.map List.toArray (fn.results.toList.mapM (z0ib a'.tmps)):=by
    exact Array.mapM_eq_mapM_toList
   have hrun:(results fn a'.tmps).run K.P w'= .ok (if h:xs.toArray.size=1 then xs.toArray[0] else .tuple xs.toArray) w':=by
    have:results fn a'.tmps=(do
     let vs←fn.results.mapM (z0ib a'.tmps)
     pure (if h:vs.size=1 then vs[0] else .tuple vs)):=rfl
    rw[this,hmap]
    simp only[map_eq_pure_bind,Sem.run_bind,h1,Result.andThen_ok,Sem.run_pure]
   refine⟨_,hrun,?_⟩
   let g':Gh:={g with mu:=fun j=>if j∈c.bx++c.nb then g.mu j else none}
   have hI':Inv K ⟨w,Wr g0,g0.S,[],g0.mu⟩ g' w' (c.outs ds):=z3Fc hI (c.bx++c.nb) hout hr2
   have hmu:∀j∈c.bx,g'.mu j=g0.mu j:=fun j hj=>by
    obtain⟨k1,k2⟩:=hbx j hj
    have e1:=hO j hj k1
    have e2:=hS j
    rw[k2] at e2
    simp only[Rep] at e2
    obtain⟨b,hb1,hb2⟩:=e2
    rw[hb2] at e1
    simp only[Value.pointer.injEq,Option.some.injEq,Addr.mk.injEq,and_true] at e1
    obtain⟨d,hd⟩:∃d,ds[j]? =some d:=⟨_,List.getElem?_eq_getElem (by rw[hlen];exact hb j hj)⟩
    have:=hA.2 j d (vs[j]'(by rw[←hl2,hlen];exact hb j hj)) hd (List.getElem?_eq_getElem _)
    rw[if_pos hj] at this
    obtain⟨b',hb',_⟩:=this
    rw[hb'] at e1
    simp only[Option.getD_some] at e1
    simp only[g',if_pos (List.mem_append_left c.nb hj)]
    rw[hb1,hb',e1]
   have cut:∀{d:z0a} {v:Value} {l:Option Loc},(∀id∈z3d d,id∈c.bx++c.nb)→Rep K.toCon g w' l d v→Rep K.toCon g' w' l d v:=fun {d v l} hd hr=>
    Rep.mono (g:=g) (g':=g') (z9d.refl g.S w') d v l l (fun id hid b hb=>by simp only[g',if_pos (hd id hid)];exact hb) (fun m hm=>⟨m,hm,fun b hb=>⟨hb,rfl,fun _ _ h=>h⟩⟩) hr
   by_cases hone:∃s,F.res=[.t s]
   ·obtain⟨s,hs⟩:=hone
    have hx:=h3 s hs
    subst hx
    rw[hs] at hval
    simp only[z1K] at hval
    refine⟨a'.tmps.getD s undef,z2Va g' (.slot s) .ret,by simp,z6kb hI' s .ret,hmu,?_⟩
    rw[←hval] at hr1⊢
    exact z6Fa (cut hr1 (hS s))
   ·have hl3:=h2.len
    simp only[List.length_map] at hl3
    have rest:∀{d:z0a} {v:Value},Rep K.toCon g w' none d v→z5b d=false→d=c.post ds→Rep K.toCon g' w' (some .ret) (c.post ds) v:=fun {d v} hr ho he=>by
     subst he;exact z29a _ ho (cut hr1 hr)
    have hdem:∀d:z0a,z5b (dem d)=false:=z12a
    cases hF:F.res with
    |nil=>
     rw[hF] at h2 hval hl3
     simp only[List.map_nil,z2b] at h2
     subst h2
     refine⟨_,g',rfl,hI',hmu,?_⟩
     refine rest (d:= .tup []) ?_ rfl (by rw[←hval];rfl)
     simp[Rep,z2b]
    |cons r rs=>
     rw[hF] at h2 hval hl3 hone
     cases rs with
     |nil=>
      simp only[List.map_cons,List.map_nil,z2b] at h2
      obtain⟨x,ys,rfl,h4,rfl⟩:=h2
      refine⟨x,g',by simp,hI',hmu,?_⟩
      cases r with
      |t s=>exact absurd ⟨s,rfl⟩ hone
      |o s=>
       simp only[z1K] at hval
       exact rest h4 (hdem _) hval
      |cell s k id=>
       simp only[z1K] at hval
       refine rest h4 ?_ hval
       cases k with
       |none=>exact hdem _
       |some n=>rfl
     |cons r2 rs=>
      have h5:¬(xs.toArray.size=1):=by simp only[List.size_toArray,←hl3,List.length_cons];omega
      refine⟨.tuple xs.toArray,g',by rw[dif_neg h5],hI',hmu,?_⟩
      refine rest (d:= .tup ((r::r2::rs).map (z97 st))) ?_ rfl (by rw[←hval];cases r<;>rfl)
      simp only[Rep]
      exact⟨_,rfl,by simpa using h2⟩
  cases e<;>simp only[z8Sb] at hl<;>simp only[bodyPostM]
  ·obtain⟨b',hE,st,hR',hq⟩:=hl
   exact z7Lc hE rfl hR' fun g w' hI hS hO=>fin st g w' hI hS (fun j _ hj=>by have:=hO j _ hj;simpa[z9b] using this) hq
  ·obtain⟨b',hE,st,_,hq⟩:=hl
   exact hq
  ·obtain⟨b',hE,st,hR',hq⟩:=hl
   exact z7Lc hE rfl hR' fun g w' hI hS hO=>fin st g w' hI hS (fun j _ hj=>by have:=hO j _ hj;simpa[z9b] using this) hq

theorem z83b {f:Nat} {fn:Func} {F:z1ka} {c:CM} (hf:K.P.funcs[K.nu f]? =some fn) (hc:z3ta K F fn=true) (hv:∀p∈z4a F.body,VB K p) (hb:∀j∈c.bx,j<F.n)
  (h:∀ds p,c.pre ds→ds.length=F.n∧awp K.E F.body (z8Bd F.res c p ds) (z7la c.bx p ds)) (hfl:z9Aa F.body=true) (ht:z2Ga F.body=true):z0Na K f c:=z4yc hf hc (z8ob hv hfl) hb h ht
end
end Go.Abs
end

section
namespace Go.Abs

def u8 (x:UInt8):z0a:= .lit (.int .u8 x.toNat)
def u32 (x:UInt32):z0a:= .lit (.int .u32 x.toNat)
def u64 (x:UInt64):z0a:= .lit (.int .u64 x.toNat)
def i64 (x:Int):z0a:= .lit (.int .i64 x)
def bo (x:Bool):z0a:= .lit (.bool x)
def st (l:List UInt8):z0a:= .lit (.string ⟨l.toArray⟩)
def bys (l:List UInt8):List z0a:=l.map u8
def z7g (l:List UInt32):List z0a:=l.map u32
def W (n:Int):Int:=IntKind.i64.wrap n

theorem z7G {n:Int} (h0: -9223372036854775808≤n) (h1:n≤9223372036854775807):W n=n:=by
 unfold W IntKind.wrap IntKind.bits IntKind.signed
 simp only[Bool.true_and,decide_eq_true_eq]
 split<;>omega

theorem z9h (n:Nat):IntKind.u8.wrap (n:Int)=((n% 256:Nat):Int):=by
 unfold IntKind.wrap IntKind.bits IntKind.signed
 simp
theorem z3g (n:Nat):IntKind.u32.wrap (n:Int)=((n% 4294967296:Nat):Int):=by
 unfold IntKind.wrap IntKind.bits IntKind.signed
 simp
theorem z3f (n:Nat):IntKind.u64.wrap (n:Int)=((n% 18446744073709551616:Nat):Int):=by
 unfold IntKind.wrap IntKind.bits IntKind.signed
 simp

section looks
@[simp] theorem z7C (x:UInt8):asI (u8 x)=x.toNat:=rfl
@[simp] theorem z0M (x:UInt32):asI (u32 x)=x.toNat:=rfl
@[simp] theorem z6M (x:UInt64):asI (u64 x)=x.toNat:=rfl
@[simp] theorem z2t (x:Int):asI (i64 x)=x:=rfl
@[simp] theorem z5D (x:Bool):asB (bo x)=x:=rfl
@[simp] theorem asS_st (l:List UInt8):asS (st l)=⟨l.toArray⟩:=rfl
@[simp] theorem isB_bo (x:Bool):isB (bo x)↔True:=by simp[isB,bo]
@[simp] theorem isI_u8 (x:UInt8):isI (u8 x)↔True:=by simp[isI,u8]
@[simp] theorem z0ja (x:UInt32):isI (u32 x)↔True:=by simp[isI,u32]
@[simp] theorem z1pa (x:UInt64):isI (u64 x)↔True:=by simp[isI,u64]
@[simp] theorem z9ja (x:Int):isI (i64 x)↔True:=by simp[isI,i64]
@[simp] theorem z3ga (x:UInt8):z28 .u8 (u8 x)↔True:=by simp[z28,u8]
@[simp] theorem isS_st (l:List UInt8):isS (st l)↔True:=by simp[isS,st]
@[simp] theorem dem_u8 (x:UInt8):dem (u8 x)=u8 x:=rfl
@[simp] theorem z1na (x:UInt32):dem (u32 x)=u32 x:=rfl
@[simp] theorem z7ha (x:UInt64):dem (u64 x)=u64 x:=rfl
@[simp] theorem z8fa (x:Int):dem (i64 x)=i64 x:=rfl
@[simp] theorem dem_bo (x:Bool):dem (bo x)=bo x:=rfl
@[simp] theorem dem_st (x:List UInt8):dem (st x)=st x:=rfl
@[simp] theorem z31 (x:UInt8):z8a (u8 x)↔True:=by simp[z8a,u8]
@[simp] theorem z4S (x:UInt32):z8a (u32 x)↔True:=by simp[z8a,u32]
@[simp] theorem z6Q (x:UInt64):z8a (u64 x)↔True:=by simp[z8a,u64]
@[simp] theorem z1S (x:Int):z8a (i64 x)↔True:=by simp[z8a,i64]
@[simp] theorem z15 (x:Bool):z8a (bo x)↔True:=by simp[z8a,bo]
@[simp] theorem z83 (x:List UInt8):z8a (st x)↔True:=by simp[z8a,st]
@[simp] theorem z7da (x:UInt8):z0b (u8 x)=true:=rfl
@[simp] theorem z82 (x:UInt32):z0b (u32 x)=true:=rfl
@[simp] theorem z33 (x:UInt64):z0b (u64 x)=true:=rfl
@[simp] theorem z00 (x:Int):z0b (i64 x)=true:=rfl
@[simp] theorem z3da (x:Bool):z0b (bo x)=true:=rfl
@[simp] theorem z0aa (x:List UInt8):z0b (st x)=true:=rfl
@[simp] theorem z2U (x:UInt8):z6c (u8 x)=true:=rfl
@[simp] theorem z9J (x:UInt32):z6c (u32 x)=true:=rfl
@[simp] theorem z3J (x:UInt64):z6c (u64 x)=true:=rfl
@[simp] theorem z1M (x:Int):z6c (i64 x)=true:=rfl
@[simp] theorem z0S (x:Bool):z6c (bo x)=true:=rfl
@[simp] theorem z8P (x:List UInt8):z6c (st x)=true:=rfl
@[simp] theorem z5ja (x:UInt8):z3d (u8 x)=[]:=rfl
@[simp] theorem z5ba (x:UInt32):z3d (u32 x)=[]:=rfl
@[simp] theorem z2ca (x:UInt64):z3d (u64 x)=[]:=rfl
@[simp] theorem z1ba (x:Int):z3d (i64 x)=[]:=rfl
@[simp] theorem z6pa (x:Bool):z3d (bo x)=[]:=rfl
@[simp] theorem z3pa (x:List UInt8):z3d (st x)=[]:=rfl
@[simp] theorem z41 (x:UInt8):z5b (u8 x)=false:=rfl
@[simp] theorem z5Q (x:UInt32):z5b (u32 x)=false:=rfl
@[simp] theorem z4W (x:UInt64):z5b (u64 x)=false:=rfl
@[simp] theorem z3W (x:Int):z5b (i64 x)=false:=rfl
@[simp] theorem z6X (x:Bool):z5b (bo x)=false:=rfl
@[simp] theorem z9X (x:List UInt8):z5b (st x)=false:=rfl
@[simp] theorem z54 (x:UInt8):z4c (u8 x)=[u8 x]:=rfl
@[simp] theorem z7U (x:UInt32):z4c (u32 x)=[u32 x]:=rfl
@[simp] theorem z9P (x:UInt64):z4c (u64 x)=[u64 x]:=rfl
@[simp] theorem z4U (x:Int):z4c (i64 x)=[i64 x]:=rfl
@[simp] theorem z14 (x:Bool):z4c (bo x)=[bo x]:=rfl
@[simp] theorem z60 (x:List UInt8):z4c (st x)=[st x]:=rfl
@[simp] theorem z3ha (l:List UInt8):z7e (st l)=l.length:=by simp[z7e,st,ByteArray.size]
@[simp] theorem z12 (bx:List z0a) (l:List UInt8):z0c bx (st l)=bys l:=by simp[z0c,st,bys,u8]
end looks

section arith
@[simp] theorem z3K (x y:Int):z9c .add (i64 x) (i64 y)=i64 (W (x+y)):=rfl
@[simp] theorem z9L (x y:Int):z9c .sub (i64 x) (i64 y)=i64 (W (x-y)):=rfl
@[simp] theorem z6L (x y:Int):z9c .mul (i64 x) (i64 y)=i64 (W (x*y)):=rfl
@[simp] theorem z5N (x y:Int):z9c .quo (i64 x) (i64 y)=i64 (W (x.tdiv y)):=rfl
@[simp] theorem z1L (x y:Int):z9c .rem (i64 x) (i64 y)=i64 (x.tmod y):=rfl
@[simp] theorem z4K (x y:Int):z9c .eql (i64 x) (i64 y)=bo (x==y):=rfl
@[simp] theorem z4I (x y:Int):z9c .neq (i64 x) (i64 y)=bo (x !=y):=rfl
@[simp] theorem z4J (x y:Int):z9c .lss (i64 x) (i64 y)=bo (decide (x<y)):=rfl
@[simp] theorem z3M (x y:Int):z9c .leq (i64 x) (i64 y)=bo (decide (x≤y)):=rfl
@[simp] theorem z0O (x y:Int):z9c .gtr (i64 x) (i64 y)=bo (decide (y<x)):=rfl
@[simp] theorem z7J (x y:Int):z9c .geq (i64 x) (i64 y)=bo (decide (y≤x)):=rfl

theorem z5d {n:Int} {x:UInt32} (h:n=x.toNat):z0a.lit (.int .u32 n)=u32 x:=by rw[h];rfl
theorem z6g {n:Int} {x:UInt8} (h:n=x.toNat):z0a.lit (.int .u8 n)=u8 x:=by rw[h];rfl
theorem z3c {n:Int} {x:UInt64} (h:n=x.toNat):z0a.lit (.int .u64 n)=u64 x:=by rw[h];rfl

theorem z8k (k n:Nat):(BitVec.ofInt k (n:Int)).toNat=n% 2^k:=by
 simp[BitVec.toNat_ofInt]
theorem z1i (x:UInt32):BitVec.ofInt 32 (x.toNat:Int)=x.toBitVec:=by
 apply BitVec.eq_of_toNat_eq
 rw[z8k]
 exact Nat.mod_eq_of_lt x.toNat_lt
theorem z5A (x:UInt8):BitVec.ofInt 8 (x.toNat:Int)=x.toBitVec:=by
 apply BitVec.eq_of_toNat_eq
 rw[z8k]
 exact Nat.mod_eq_of_lt x.toNat_lt
theorem z3m (x:UInt64):BitVec.ofInt 64 (x.toNat:Int)=x.toBitVec:=by
 apply BitVec.eq_of_toNat_eq
 rw[z8k]
 exact Nat.mod_eq_of_lt x.toNat_lt
theorem z7f (x:BitVec 32):IntKind.u32.wrap (x.toNat:Int)=(x.toNat:Int):=by rw[z3g,Nat.mod_eq_of_lt x.isLt]
theorem z2q (x:BitVec 8):IntKind.u8.wrap (x.toNat:Int)=(x.toNat:Int):=by rw[z9h,Nat.mod_eq_of_lt x.isLt]
theorem z0j (x:BitVec 64):IntKind.u64.wrap (x.toNat:Int)=(x.toNat:Int):=by rw[z3f,Nat.mod_eq_of_lt x.isLt]

@[simp] theorem z5L (x y:UInt32):z9c .add (u32 x) (u32 y)=u32 (x+y):=z5d (by
 show IntKind.u32.wrap ((x.toNat:Int)+y.toNat)=_
 rw[←Int.natCast_add,z3g,UInt32.toNat_add])
@[simp] theorem z6V (x y:UInt8):z9c .add (u8 x) (u8 y)=u8 (x+y):=z6g (by
 show IntKind.u8.wrap ((x.toNat:Int)+y.toNat)=_
 rw[←Int.natCast_add,z9h,UInt8.toNat_add])
@[simp] theorem z8K (x y:UInt64):z9c .add (u64 x) (u64 y)=u64 (x+y):=z3c (by
 show IntKind.u64.wrap ((x.toNat:Int)+y.toNat)=_
 rw[←Int.natCast_add,z3f,UInt64.toNat_add])
@[simp] theorem z5J (x y:UInt64):z9c .mul (u64 x) (u64 y)=u64 (x*y):=z3c (by
 show IntKind.u64.wrap ((x.toNat:Int)*y.toNat)=_
 rw[←Int.natCast_mul,z3f,UInt64.toNat_mul])
@[simp] theorem z8O (x y:UInt32):z9c .and (u32 x) (u32 y)=u32 (x&&&y):=z5d (by
 show IntKind.u32.wrap ((BitVec.ofInt 32 x.toNat&&&BitVec.ofInt 32 y.toNat).toNat:Int)=_
 rw[z1i,z1i,z7f]
 rfl)
@[simp] theorem z5U (x y:UInt32):z9c .or (u32 x) (u32 y)=u32 (x|||y):=z5d (by
 show IntKind.u32.wrap ((BitVec.ofInt 32 x.toNat|||BitVec.ofInt 32 y.toNat).toNat:Int)=_
 rw[z1i,z1i,z7f]
 rfl)
@[simp] theorem z8M (x y:UInt32):z9c .xor (u32 x) (u32 y)=u32 (x^^^y):=z5d (by
 show IntKind.u32.wrap ((BitVec.ofInt 32 x.toNat^^^BitVec.ofInt 32 y.toNat).toNat:Int)=_
 rw[z1i,z1i,z7f]
 rfl)
@[simp] theorem z3Z (x y:UInt8):z9c .or (u8 x) (u8 y)=u8 (x|||y):=z6g (by
 show IntKind.u8.wrap ((BitVec.ofInt 8 x.toNat|||BitVec.ofInt 8 y.toNat).toNat:Int)=_
 rw[z5A,z5A,z2q]
 rfl)
@[simp] theorem z4R (x y:UInt8):z9c .xor (u8 x) (u8 y)=u8 (x^^^y):=z6g (by
 show IntKind.u8.wrap ((BitVec.ofInt 8 x.toNat^^^BitVec.ofInt 8 y.toNat).toNat:Int)=_
 rw[z5A,z5A,z2q]
 rfl)
@[simp] theorem z2R (x y:UInt64):z9c .or (u64 x) (u64 y)=u64 (x|||y):=z3c (by
 show IntKind.u64.wrap ((BitVec.ofInt 64 x.toNat|||BitVec.ofInt 64 y.toNat).toNat:Int)=_
 rw[z3m,z3m,z0j]
 rfl)

@[simp] theorem z1U (x y:UInt8):z9c .eql (u8 x) (u8 y)=bo (x==y):=by
 show z0a.lit (.bool ((x.toNat:Int)==y.toNat))= .lit (.bool _)
 congr 2
 rw[Bool.eq_iff_iff]
 simp only[beq_iff_eq,bne_iff_ne,ne_eq,←UInt8.toNat_inj]
 omega
@[simp] theorem z7Q (x y:UInt8):z9c .neq (u8 x) (u8 y)=bo (x !=y):=by
 show z0a.lit (.bool ((x.toNat:Int) !=y.toNat))= .lit (.bool _)
 congr 2
 rw[Bool.eq_iff_iff]
 simp only[beq_iff_eq,bne_iff_ne,ne_eq,←UInt8.toNat_inj]
 omega
@[simp] theorem z9H (x y:UInt64):z9c .eql (u64 x) (u64 y)=bo (x==y):=by
 show z0a.lit (.bool ((x.toNat:Int)==y.toNat))= .lit (.bool _)
 congr 2
 rw[Bool.eq_iff_iff]
 simp only[beq_iff_eq,bne_iff_ne,ne_eq,←UInt64.toNat_inj]
 omega
@[simp] theorem z9M (x y:UInt64):z9c .gtr (u64 x) (u64 y)=bo (decide (y<x)):=by
 show z0a.lit (.bool (decide ((x.toNat:Int)>y.toNat)))= .lit (.bool _)
 congr 2
 simp[UInt64.lt_iff_toNat_lt]
@[simp] theorem z6O (x y:UInt64):z9c .lss (u64 x) (u64 y)=bo (decide (x<y)):=by
 show z0a.lit (.bool (decide ((x.toNat:Int)<y.toNat)))= .lit (.bool _)
 congr 2
 simp[UInt64.lt_iff_toNat_lt]
@[simp] theorem z8L (x y:UInt64):z9c .rem (u64 x) (u64 y)=u64 (x% y):=z3c (by
 show((x.toNat:Int).tmod y.toNat)=_
 rw[UInt64.toNat_mod]
 rfl)
@[simp] theorem z9R (x:UInt32):unV .xor (u32 x)=u32 (~~~x):=z5d (by
 show IntKind.u32.wrap ((BitVec.ofInt 32 4294967295^^^BitVec.ofInt 32 x.toNat).toNat:Int)=_
 rw[z1i,z7f]
 have e:(BitVec.ofInt 32 4294967295)=BitVec.allOnes 32:=by decide
 rw[e,BitVec.allOnes_xor]
 rfl)
@[simp] theorem z0U (x:UInt64):unV .xor (u64 x)=u64 (~~~x):=z3c (by
 show IntKind.u64.wrap ((BitVec.ofInt 64 18446744073709551615^^^BitVec.ofInt 64 x.toNat).toNat:Int)=_
 rw[z3m,z0j]
 have e:(BitVec.ofInt 64 18446744073709551615)=BitVec.allOnes 64:=by decide
 rw[e,BitVec.allOnes_xor]
 rfl)
@[simp] theorem un_not (x:Bool):unV .not (bo x)=bo (!x):=rfl
@[simp] theorem z3S (x:Int):unV .neg (i64 x)=i64 (W (-x)):=by
 show z0a.lit (.int .i64 (IntKind.i64.wrap (0-x)))=_
 rw[Int.zero_sub];rfl
end arith

/-! ### Shifts and conversions -/
def z9q (x:UInt32) (n:Nat):UInt32:=⟨x.toBitVec>>>n⟩
def z8A (x:UInt32) (n:Nat):UInt32:=⟨x.toBitVec<<<n⟩
def z5n (x:UInt64) (n:Nat):UInt64:=⟨x.toBitVec>>>n⟩
def z8Z (x:UInt64) (n:Nat):UInt64:=⟨x.toBitVec<<<n⟩

theorem z6l (b n:Nat) (x:BitVec b):((x.toNat:Int).fdiv (2^min n b))=((x>>>n).toNat:Int):=by
 have h2:((2:Int)^min n b)=((2^min n b:Nat):Int):=by simp
 rw[h2,BitVec.toNat_ushiftRight,Nat.shiftRight_eq_div_pow]
 have:((x.toNat:Int).fdiv ((2^min n b:Nat):Int))=((x.toNat/2^min n b:Nat):Int):=by
  rw[Int.fdiv_eq_ediv_of_nonneg _ (Int.natCast_nonneg _)]
  rfl
 rw[this]
 rcases Nat.le_total n b with h|h
 ·rw[Nat.min_eq_left h]
 ·rw[Nat.min_eq_right h,Nat.div_eq_of_lt x.isLt,Nat.div_eq_of_lt]
  exact Nat.lt_of_lt_of_le x.isLt (Nat.pow_le_pow_right (by decide) h)

theorem z9k (b n:Nat) (x:BitVec b):(x.toNat*2^min n b)% 2^b=(x<<<n).toNat:=by
 rw[BitVec.toNat_shiftLeft,Nat.shiftLeft_eq]
 rcases Nat.le_total n b with h|h
 ·rw[Nat.min_eq_left h]
 ·rw[Nat.min_eq_right h,Nat.mul_mod_left]
  obtain⟨k,rfl⟩:=Nat.exists_eq_add_of_le h
  rw[Nat.pow_add,←Nat.mul_assoc,Nat.mul_right_comm,Nat.mul_mod_left]

theorem z7h (x n b:Nat):((x:Int)*2^min n b)=((x*2^min n b:Nat):Int):=by simp

@[simp] theorem z5K (x:UInt32) (n:Int):z9c .shr (u32 x) (i64 n)=u32 (z9q x n.toNat):=z5d (z6l 32 n.toNat x.toBitVec)
@[simp] theorem z5H (x:UInt32) (n:UInt64):z9c .shr (u32 x) (u64 n)=u32 (z9q x n.toNat):=z5d (z6l 32 n.toNat x.toBitVec)
@[simp] theorem z0J (x:UInt64) (n:Int):z9c .shr (u64 x) (i64 n)=u64 (z5n x n.toNat):=z3c (z6l 64 n.toNat x.toBitVec)
@[simp] theorem z7F (x:UInt64) (n:UInt64):z9c .shr (u64 x) (u64 n)=u64 (z5n x n.toNat):=z3c (z6l 64 n.toNat x.toBitVec)
@[simp] theorem z2I (x:UInt32) (n:Int):z9c .shl (u32 x) (i64 n)=u32 (z8A x n.toNat):=z5d (by
 show IntKind.u32.wrap ((x.toNat:Int)*2^min n.toNat 32)=_
 rw[z7h,z3g]
 exact congrArg _ (z9k 32 n.toNat x.toBitVec))
@[simp] theorem z8G (x:UInt32) (n:UInt64):z9c .shl (u32 x) (u64 n)=u32 (z8A x n.toNat):=z5d (by
 show IntKind.u32.wrap ((x.toNat:Int)*2^min n.toNat 32)=_
 rw[z7h,z3g]
 exact congrArg _ (z9k 32 n.toNat x.toBitVec))
@[simp] theorem z1O (x:UInt64) (n:Int):z9c .shl (u64 x) (i64 n)=u64 (z8Z x n.toNat):=z3c (by
 show IntKind.u64.wrap ((x.toNat:Int)*2^min n.toNat 64)=_
 rw[z7h,z3f]
 exact congrArg _ (z9k 64 n.toNat x.toBitVec))
@[simp] theorem z5G (x:UInt64) (n:UInt64):z9c .shl (u64 x) (u64 n)=u64 (z8Z x n.toNat):=z3c (by
 show IntKind.u64.wrap ((x.toNat:Int)*2^min n.toNat 64)=_
 rw[z7h,z3f]
 exact congrArg _ (z9k 64 n.toNat x.toBitVec))

@[simp] theorem z4L (x y:UInt64):z9c .sub (u64 x) (u64 y)=u64 (x-y):=z3c (by
 show IntKind.u64.wrap ((x.toNat:Int)-y.toNat)=_
 rw[UInt64.toNat_sub]
 have:=x.toNat_lt
 have:=y.toNat_lt
 unfold IntKind.wrap IntKind.bits IntKind.signed
 simp only[Bool.false_and,Bool.false_eq_true,if_false]
 omega)
@[simp] theorem z0N (x y:UInt64):z9c .and (u64 x) (u64 y)=u64 (x&&&y):=z3c (by
 show IntKind.u64.wrap ((BitVec.ofInt 64 x.toNat&&&BitVec.ofInt 64 y.toNat).toNat:Int)=_
 rw[z3m,z3m,z0j]
 rfl)

@[simp] theorem z42 (x:UInt32):cvV .u8 (u32 x)=u8 x.toUInt8:=z6g (by
 show IntKind.u8.wrap (x.toNat:Int)=_
 rw[z9h,UInt32.toNat_toUInt8])
@[simp] theorem z0Z (x:UInt64):cvV .u8 (u64 x)=u8 x.toUInt8:=z6g (by
 show IntKind.u8.wrap (x.toNat:Int)=_
 rw[z9h,UInt64.toNat_toUInt8])
@[simp] theorem z6Y (x:UInt8):cvV .u32 (u8 x)=u32 x.toUInt32:=z5d (by
 show IntKind.u32.wrap (x.toNat:Int)=_
 rw[z3g,UInt8.toNat_toUInt32,Nat.mod_eq_of_lt (by have:=x.toNat_lt;omega)])
@[simp] theorem z2Z (x:UInt8):cvV .u64 (u8 x)=u64 x.toUInt64:=z3c (by
 show IntKind.u64.wrap (x.toNat:Int)=_
 rw[z3f,UInt8.toNat_toUInt64,Nat.mod_eq_of_lt (by have:=x.toNat_lt;omega)])
theorem z9g (n:Int) (m:Nat) (hm:0<m):(((n% (m:Int)).toNat:Nat):Int)=n% (m:Int):=Int.toNat_of_nonneg (Int.emod_nonneg _ (by omega))
theorem z6t (n:Int):(UInt8.ofInt n).toNat=(n% 256).toNat:=by
 unfold UInt8.ofInt
 rw[UInt8.toNat_ofNat',Nat.mod_eq_of_lt (by omega)]
 rfl
theorem z7t (n:Int):(UInt32.ofInt n).toNat=(n% 4294967296).toNat:=by
 unfold UInt32.ofInt
 rw[UInt32.toNat_ofNat',Nat.mod_eq_of_lt (by omega)]
 rfl
theorem z3l (n:Int):(UInt64.ofInt n).toNat=(n% 18446744073709551616).toNat:=by
 unfold UInt64.ofInt
 rw[UInt64.toNat_ofNat',Nat.mod_eq_of_lt (by omega)]
 rfl
@[simp] theorem z5Y (n:Int):cvV .u8 (i64 n)=u8 (UInt8.ofInt n):=z6g (by
 show IntKind.u8.wrap n=_
 rw[show(UInt8.ofInt n).toNat=(n% 256).toNat from z6t n]
 exact(z9g n 256 (by decide)).symm)
@[simp] theorem z8R (n:Int):cvV .u64 (i64 n)=u64 (UInt64.ofInt n):=z3c (by
 show IntKind.u64.wrap n=_
 rw[show(UInt64.ofInt n).toNat=(n% 18446744073709551616).toNat from z3l n]
 exact(z9g n 18446744073709551616 (by decide)).symm)
@[simp] theorem z7T (n:Int):cvV .u32 (i64 n)=u32 (UInt32.ofInt n):=z5d (by
 show IntKind.u32.wrap n=_
 rw[show(UInt32.ofInt n).toNat=(n% 4294967296).toNat from z7t n]
 exact(z9g n 4294967296 (by decide)).symm)
@[simp] theorem z4Y (x:UInt8):cvV .i64 (u8 x)=i64 x.toNat:=by
 show z0a.lit (.int .i64 (W x.toNat))=_
 rw[z7G (by omega) (by have:=x.toNat_lt;omega)]
 rfl
@[simp] theorem z0V (x:UInt32):cvV .i64 (u32 x)=i64 x.toNat:=by
 show z0a.lit (.int .i64 (W x.toNat))=_
 rw[z7G (by omega) (by have:=x.toNat_lt;omega)]
 rfl
@[simp] theorem z7P (x:UInt64):cvV .i64 (u64 x)=i64 (W x.toNat):=rfl
@[simp] theorem z4P (x:Int):cvV .i64 (i64 x)=i64 (W x):=rfl
end Go.Abs
end
