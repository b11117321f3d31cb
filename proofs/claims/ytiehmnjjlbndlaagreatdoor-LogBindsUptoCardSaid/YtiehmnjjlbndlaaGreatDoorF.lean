/- Lemmas. -/
import Derived.Test.YtiehmnjjlbndlaaGreatDoorE
import Derived.Laws.Sem
set_option linter.all false
set_option linter.unusedVariables false
namespace Go.Abs
section
variable {K : Cx} {n : Nat}
theorem NT{keep:List Nat}{gs:List tJ}{xs:List af}{x:Code}{Q:aB->ASt->Prop}{base:aZ}{st:ASt}{a:Act}{w:World}{r:Option Nat}{m:Nat}(hc:pC K n (.region keep gs xs) x=true)
  (hv:∀p∈ae (.region keep gs xs),VB K p) (hcd:gs.all tJ.cold=true) (h:awp K.E (.region keep gs xs) Q st) (hR:Rel K base n st a w):x.wpIn (WF r) m K.P (Ii K base n Q) a w:=by
 simp only[pC] at hc;simp only[awp] at h;obtain⟨hok,hgs,hq⟩:=h;split at hc
 ·rename_i id ops draw;simp only[Bool.and_eq_true,Bool.or_eq_true,Bool.not_eq_true'] at hc;obtain⟨hops,hdr⟩:=hc;have hV':∀y∈xs,VOk K y.op:=λy hy f hf=>hv f (by simp only[ae,List.mem_flatMap];exact⟨y,hy,hf⟩);cases draw with
  |false=>refine wpIn_region ?_;rw[List.range_eq_range'];refine MF (Q:=Ii K base n Q) hops hV' ops.size 0 st a w (by omega) hR (by simpa using hok) λa' w' hR'=>⟨base,fY.refl _ _,_,Ib gs hcd (vo keep hR') (by simpa using hgs),by simpa using hq⟩
  |true=>
   rcases hdr with hdr|hdr
   ·cases hdr
   have hlen:=(AA hops).1;have hmap:(List.range ops.size).map (xs.getD · default)=xs:=by
    apply List.ext_getElem?;intro i;rw[List.getElem?_map];by_cases hi:i<ops.size
    ·rw[List.getElem?_range hi];have hi':i<xs.length:=by rw[<-hlen];simpa using hi
     simp[List.getD,List.getElem?_eq_getElem hi']
    have hi':¬i<xs.length:=by rw[<-hlen];simpa using hi
    rw[List.getElem?_eq_none (by simpa using hi),List.getElem?_eq_none (by omega)];rfl
   refine wpIn_region_any hdr.2 ?_;have hR1:Rel K base n st a {w with drawn:=w.drawn+1}:=by obtain⟨g,hI,hS,hO⟩:=hR;exact⟨g,E6 hI,EM.slots hS,hO⟩
   refine Oi hops hV' hdr.1 ops.size (List.range ops.size) _ st a _ (by simp) (by simp) List.pairwise_lt_range (λi=> ?_) hR1 (by rw[hmap];exact hok) (λa' w' hR'=> ?_)
   ·simp only[List.mem_range];constructor
    ·intro hi;refine⟨hi,?_⟩;simp[Array.getD_eq_getD_getElem?,hi]
    exact λh=>h.1
   rw[hmap] at hR';exact⟨base,fY.refl _ _,_,Ib gs hcd (vo keep hR') hgs,hq⟩
 cases hc
theorem sR:∀(c:av) (x:Code) (r:Option Nat) (m:Nat) (Q:aB->ASt->Prop) (base:aZ) (st:ASt) (a:Act) (w:World),pC K n c x=true->(∀p∈ae c,VB K p)->(∀f∈yB c,uu K f (K.E.I f))->
  (sg c=true∨r=none∧Ai c=true)->tF c=true->awp K.E c Q st->Rel K base n st a w->x.wpIn (WF r) m K.P (Ii K base n Q) a w
 | .ghost g c,x,r,m,Q,base,st,a,w,hc,hv,hi,hf,hcd,h,hR=>by simp only[pC] at hc;simp only[awp] at h;exact sR c x r m Q base _ a w hc hv hi (by simpa only[sg,Ai] using hf) (by simp only[tF,Bool.and_eq_true] at hcd;exact hcd.2) h.2 (vr g (by simp only[tF,Bool.and_eq_true] at hcd;exact hcd.1) hR h.1)
 | .skip,x,r,m,Q,base,st,a,w,hc,hv,hi,hf,hcd,h,hR=>by
  simp only[pC] at hc;simp only[awp] at h;split at hc
  ·exact wpIn_skip ⟨base,fY.refl _ _,st,hR,h⟩
  ·exact wpIn_label ⟨base,fY.refl _ _,st,hR,h⟩
  cases hc
 | .exit id,x,r,m,Q,base,st,a,w,hc,hv,hi,hf,hcd,h,hR=>by
  simp only[pC] at hc;simp only[awp] at h;split at hc
  ·simp only[beq_iff_eq] at hc;subst hc;exact wpIn_exit ⟨base,fY.refl _ _,st,hR,h⟩
  cases hc
 | .ret,x,r,m,Q,base,st,a,w,hc,hv,hi,hf,hcd,h,hR=>by
  simp only[pC] at hc;simp only[awp] at h;split at hc
  ·exact wpIn_ret ⟨base,fY.refl _ _,st,hR,h⟩
  cases hc
 | .bad,x,r,m,Q,base,st,a,w,hc,hv,hi,hf,hcd,h,hR=>by simp only[awp] at h
 | .nm s c,x,r,m,Q,base,st,a,w,hc,hv,hi,hf,hcd,h,hR=>by simp only[pC] at hc;simp only[awp] at h;obtain⟨q,cap,h1,h2⟩:=z0n s hR;exact sR c x r m Q base _ a w hc hv hi (by simpa only[sg,Ai] using hf) (by simpa only[tF] using hcd) (h q cap h1) h2
 | .alt p q,x,r,m,Q,base,st,a,w,hc,hv,hi,hf,hcd,h,hR=>by
  simp only[pC,Bool.and_eq_true] at hc;simp only[awp] at h;simp only[ae,yB,List.mem_append] at hv hi;simp only[sg,Ai,Bool.and_eq_true] at hf;simp only[tF,Bool.and_eq_true] at hcd;rcases h with h|h
  ·exact sR p x r m Q base st a w hc.1 (λf hf=>hv f (.inl hf)) (λf hf=>hi f (.inl hf)) (hf.imp (·.1) λh=>⟨h.1,h.2.1⟩) hcd.1 h hR
  exact sR q x r m Q base st a w hc.2 (λf hf=>hv f (.inr hf)) (λf hf=>hi f (.inr hf)) (hf.imp (·.2) λh=>⟨h.1,h.2.2⟩) hcd.2 h hR
 | .region keep gs xs,x,r,m,Q,base,st,a,w,hc,hv,hi,hf,hcd,h,hR=>NT hc hv (by simpa only[tF] using hcd) h hR
 | .seq p q,x,r,m,Q,base,st,a,w,hc,hv,hi,hf,hcd,h,hR=>by
  simp only[pC] at hc;simp only[awp] at h;simp only[ae,yB,List.mem_append] at hv hi;simp only[sg,Ai,Bool.and_eq_true] at hf;simp only[tF,Bool.and_eq_true] at hcd;split at hc
  ·rename_i y z;simp only[Bool.and_eq_true] at hc;refine wpIn_seq (wpIn_mono (sR p y r m _ base st a w hc.1 (λf hf=>hv f (.inl hf)) (λf hf=>hi f (.inl hf)) (hf.imp (·.1) λh=>⟨h.1,h.2.1⟩) hcd.1 h hR) ?_);intro e a' w' hl;cases e<;>simp only[Ii] at hl<;>simp only[Exit.then]
   ·obtain⟨b',hE,st',hR',hq⟩:=hl;exact wpIn_mono (sR q z r m Q b' st' a' w' hc.2 (λf hf=>hv f (.inr hf)) (λf hf=>hi f (.inr hf)) (hf.imp (·.2) λh=>⟨h.1,h.2.2⟩) hcd.2 hq hR') (OE hE)
   ·exact hl
   exact hl
  cases hc
 | .cond c p q,x,r,m,Q,base,st,a,w,hc,hv,hi,hf,hcd,h,hR=>by
  simp only[pC] at hc;simp only[awp] at h;simp only[ae,yB,List.mem_append] at hv hi;simp only[sg,Ai,Bool.and_eq_true] at hf;simp only[tF,Bool.and_eq_true] at hcd;split at hc
  ·rename_i c' y z;simp only[Bool.and_eq_true] at hc;obtain⟨⟨hcc,hy⟩,hz⟩:=hc;obtain⟨hb,ht,hf'⟩:=h;have hR':=hR;obtain⟨g,hI,hS,_⟩:=hR';obtain⟨_,hval⟩:=GA (o6 hI hS hcc) hb;refine wpIn_cond_split hval (λe=> ?_) (λe=> ?_)
   ·exact sR p y r m Q base st a w hy (λf hf=>hv f (.inl hf)) (λf hf=>hi f (.inl hf)) (hf.imp (·.1) λh=>⟨h.1,h.2.1⟩) hcd.1 (ht e) hR
   exact sR q z r m Q base st a w hz (λf hf=>hv f (.inr hf)) (λf hf=>hi f (.inr hf)) (hf.imp (·.2) λh=>⟨h.1,h.2.2⟩) hcd.2 (hf' e) hR
  cases hc
 | .scope b,x,r,m,Q,base,st,a,w,hc,hv,hi,hf,hcd,h,hR=>by
  simp only[pC] at hc;simp only[awp] at h;simp only[sg,Ai] at hf;simp only[tF] at hcd;split at hc
  ·rename_i p;refine KZ (wpIn_mono (sR b p r m Q base st a w hc hv hi hf hcd h hR) ?_);intro e a' w' hl;cases e<;>simp only[Ii] at hl<;>exact hl
  cases hc
 | .block id b,x,r,m,Q,base,st,a,w,hc,hv,hi,hf,hcd,h,hR=>by
  simp only[pC] at hc;simp only[awp] at h;simp only[sg,Ai] at hf;simp only[tF] at hcd;split at hc
  ·rename_i id' p;simp only[Bool.and_eq_true,beq_iff_eq] at hc;obtain⟨rfl,hp⟩:=hc;refine wpIn_block (wpIn_mono (sR b p r m _ base st a w hp hv hi hf hcd h hR) ?_);intro e a' w' hl;cases e<;>simp only[Ii] at hl<;>simp only[Exit.inBlock]
   ·exact hl
   ·rename_i id';obtain⟨b',hE,st',hR',hq⟩:=hl;simp only[dL] at hq;split
    ·rename_i he;rw[if_pos he] at hq;exact⟨b',hE,st',hR',hq⟩
    rename_i he;rw[if_neg he] at hq;exact⟨b',hE,st',hR',hq⟩
   exact hl
  cases hc
 | .loop b,x,r,m,Q,base,st,a,w,hc,hv,hi,hf,hcd,h,hR=>by
  simp only[pC] at hc;simp only[awp] at h;simp only[sg,Ai] at hf;simp only[tF] at hcd;split at hc
  ·rename_i p;obtain⟨I,⟨k,hm⟩,hround⟩:=h;refine Du (λk a w=>∃b',fY K base b'∧∃st,Rel K b' n st a w∧I k st) ⟨base,fY.refl _ _,st,hR,hm⟩ λk a w hj=> ?_;obtain⟨b',hE,st',hR',hI⟩:=hj;refine wpIn_mono (sR b p r m _ b' st' a w hc hv hi hf hcd (hround _ st' hI) hR') ?_;intro e a' w' hl;have hl:=OE hE e a' w' hl;cases e<;>simp only[Ii] at hl<;>simp only[Exit.then]
   ·obtain⟨b2,hE2,st2,hR2,m',hlt,hI'⟩:=hl;exact⟨m',hlt,b2,hE2,st2,hR2,hI'⟩
   ·exact hl
   exact hl
  cases hc
 | .range f t ks ps as bd,x,r,m,Q,base,st,a,w,hc,hv,hi,hf,hcd,h,hR=>by
  simp only[pC] at hc;simp only[ae,yB,List.mem_append,List.mem_cons] at hv hi;simp only[sg,Ai,Bool.false_eq_true,false_or,Bool.and_eq_true] at hf;simp only[tF,Bool.and_eq_true] at hcd;obtain⟨rfl,hfa,hfb⟩:=hf;split at hc
  ·rename_i G qs p q;simp only[Bool.and_eq_true,beq_iff_eq,decide_eq_true_eq,List.all_eq_true] at hc;obtain⟨⟨⟨⟨⟨hg,hps⟩,hlt⟩,hnd⟩,hca⟩,hcb⟩:=hc;exact QE hg hps hlt hnd (hi f (.inl rfl))
    (λl m' base st a w Q h hR=>sR as p (some l) m' Q base st a w hca (λp hp=>hv p (.inl hp)) (λp hp=>hi p (.inr (.inl hp))) (.inl hfa) hcd.1 h hR)
    (λl m' base st a w Q h hR=>sR bd q (some l) m' Q base st a w hcb (λp hp=>hv p (.inr hp)) (λp hp=>hi p (.inr (.inr hp))) (.inl hfb) hcd.2 h hR) h hR
  cases hc
theorem bM{F:Fence}{q:Nat}{P:Program}{fn:Func}{tmps:Array Value}{R:Ending->World->Prop}:∀(ms:List Nat) (w:World),(∀D∈ms,w.heap[D]? =some (.deferred (some [])))->ms.Nodup->
  (∀w',Fr w.heap.size (λb=>b∈ms) w w'->∃v,(results fn tmps).run P w'= .ok v w'∧R (.returned v) w')->LeavesInM F q P fn tmps R (ms.map z2T) .returning w
 |[],w,_,_,h=>h w (Fr.refl _ _ _)
 |D::ms,w,hD,hn,h=>by
  rw[List.nodup_cons] at hn;refine⟨by simp,.inl ⟨D,w.putObj D (.deferred none),rfl,run_takeDeferred (hD D (by simp)),?_⟩⟩;have hf:=da w D (.deferred none);have hlt:∀x∈ms,x<w.heap.size:=λx hx=>by have:=hD x (by simp[hx]);exact(Array.getElem?_eq_some_iff.1 this).1
  refine bM ms _ (λx hx=> ?_) hn.2 (λw' hw'=>h w' ?_)
  ·rw[hf.block x (hlt x hx) (λe=>hn.1 (e▸hx))];exact hD x (by simp[hx])
  exact(hf.mono (Nat.le_refl _) (λk _ e=>by subst e;simp)).trans (hw'.mono (by simp[World.putObj]) (λk _ e=>by simp[e]))
theorem Tn{base base':aZ}{st:ASt}{a:Act}{w:World}{q:Nat}{fn:Func}{R:Ending->World->Prop}(hE:fY K base base')(hdl:base.dl=[])(hR:Rel K base' n st a w)
  (h:∀g w',Inv K base g w' st.getB->dI K g w' st.get a->kS K base' st a->∃v,(results fn a.tmps).run K.P w'= .ok v w'∧R (.returned v) w'):LeavesInM (WF none) q K.P fn a.tmps R a.defers .returning w:=by
 obtain⟨g,hI,hS,hO,hd,_⟩:=hR;obtain⟨ms,e,hn,h1,h2⟩:=hE.marks;have h3:=h2 g w _ hI;rw[hd,e,hdl,List.append_nil];refine bM ms w (λD hD=>(h3 D hD).2.2) hn λw' hw'=>h g w' ?_ ?_ hO
 ·exact jC (hE.inv _ _ _ hI) hw' λb hb=>⟨(h3 b hb).1,.inl (h1 b hb).1⟩
 exact λs=>K7 hw' (λb hb=>(h3 b hb).1) (λb l hb=>(hI.owW b l hb).2) (hS s)
end
section
variable {K : Cx} {base : aZ} {n : Nat} {st : ASt} {a : Act} {w : World}
theorem Lv(gh:tJ)(hF:KU K base)(hR:Rel K base n st a w)(hok:bK gh st):∃base',fY K base base'∧KU K base'∧Rel K base' n (oS gh st) a w:=by
 cases gh with
 |thaw s id=>exact⟨base,fY.refl _ _,hF,z4d s id hF hR hok⟩
 |thawB b i id=>exact⟨base,fY.refl _ _,hF,U0 b i id hF hR hok⟩
 |unorg s=>exact⟨base,fY.refl _ _,hF,vr _ rfl hR hok⟩
 |hideB b i=>exact⟨base,fY.refl _ _,hF,vr _ rfl hR hok⟩
 |reB b i o=>exact⟨base,fY.refl _ _,hF,vr _ rfl hR hok⟩
 |keep l=>exact⟨base,fY.refl _ _,hF,vr _ rfl hR hok⟩
 |drop ids=>exact⟨base,fY.refl _ _,hF,vr _ rfl hR hok⟩
 |freeze ids=>exact⟨base,fY.refl _ _,hF,vr _ rfl hR hok⟩
 |norm ids=>exact⟨base,fY.refl _ _,hF,vr _ rfl hR hok⟩
theorem Qm:∀(gs:List tJ) {base:aZ} {st:ASt},KU K base->Rel K base n st a w->iG gs st->∃base',fY K base base'∧KU K base'∧Rel K base' n (cZ gs st) a w
 |[],base,_,hF,hR,_=>⟨base,fY.refl _ _,hF,hR⟩
 |g::gs,base,st,hF,hR,hok=>by obtain⟨b1,e1,f1,r1⟩:=Lv g hF hR hok.1;obtain⟨b2,e2,f2,r2⟩:=Qm gs f1 r1 hok.2;exact⟨b2,e1.trans e2,f2,r2⟩
end
def HM(K:Cx)(Cd:Prop)(base:aZ)(n:Nat)(Q:aB->ASt->Prop):Exit->Act->World->Prop
 | .normal,a,w=>∃base',(fY K base base'∧(KU K base->KU K base')∧(Cd->base'=base))∧∃st,Rel K base' n st a w∧Q .normal st
 | .exit id,a,w=>∃base',(fY K base base'∧(KU K base->KU K base')∧(Cd->base'=base))∧∃st,Rel K base' n st a w∧Q (.exit id) st
 | .ret,a,w=>∃base',(fY K base base'∧(KU K base->KU K base')∧(Cd->base'=base))∧∃st,Rel K base' n st a w∧Q .ret st
 |_,_,_=>False
theorem HC{K:Cx}{Cd:Prop}{base base':aZ}{n:Nat}{Q:aB->ASt->Prop}(h:fY K base base')(hf:KU K base->KU K base')(he:Cd->base'=base):∀e a w,HM K Cd base' n Q e a w->HM K Cd base n Q e a w:=by
 intro e a w hl;cases e<;>simp only[HM] at hl⊢
 all_goals (obtain⟨b,⟨hb,hb',he'⟩,r⟩:=hl;exact⟨b,⟨h.trans hb,λx=>hb' (hf x),λhc=>(he' hc).trans (he hc)⟩,r⟩)
section
variable {K : Cx} {n : Nat} {Cd : Prop}
theorem P3{keep:List Nat}{gs:List tJ}{xs:List af}{x:Code}{Q:aB->ASt->Prop}{base:aZ}{st:ASt}{a:Act}{w:World}{r:Option Nat}{m:Nat}(hc:pC K n (.region keep gs xs) x=true)
  (hv:∀p∈ae (.region keep gs xs),VB K p) (hcd:gs.all tJ.cold=true∨(KU K base∧¬Cd)) (h:awp K.E (.region keep gs xs) Q st) (hR:Rel K base n st a w):x.wpIn (WF r) m K.P (HM K Cd base n Q) a w:=by
 simp only[pC] at hc;simp only[awp] at h;obtain⟨hok,hgs,hq⟩:=h;split at hc
 ·rename_i id ops draw;simp only[Bool.and_eq_true,Bool.or_eq_true,Bool.not_eq_true'] at hc;obtain⟨hops,hdr⟩:=hc;have hV':∀y∈xs,VOk K y.op:=λy hy f hf=>hv f (by simp only[ae,List.mem_flatMap];exact⟨y,hy,hf⟩);cases draw with
  |false=>
   refine wpIn_region ?_;rw[List.range_eq_range'];refine MF (Q:=HM K Cd base n Q) hops hV' ops.size 0 st a w (by omega) hR (by simpa using hok) λa' w' hR'=> ?_;rcases hcd with hcd|hcd
   ·exact⟨base,⟨fY.refl _ _,λx=>x,λ_=>rfl⟩,_,Ib gs hcd (vo keep hR') (by simpa using hgs),by simpa using hq⟩
   obtain⟨b',e1,e2,e3⟩:=Qm gs hcd.1 (vo keep hR') (by simpa using hgs);exact⟨b',⟨e1,λ_=>e2,λh=>absurd h hcd.2⟩,_,e3,by simpa using hq⟩
  |true=>
   rcases hdr with hdr|hdr
   ·cases hdr
   have hlen:=(AA hops).1;have hmap:(List.range ops.size).map (xs.getD · default)=xs:=by
    apply List.ext_getElem?;intro i;rw[List.getElem?_map];by_cases hi:i<ops.size
    ·rw[List.getElem?_range hi];have hi':i<xs.length:=by rw[<-hlen];simpa using hi
     simp[List.getD,List.getElem?_eq_getElem hi']
    have hi':¬i<xs.length:=by rw[<-hlen];simpa using hi
    rw[List.getElem?_eq_none (by simpa using hi),List.getElem?_eq_none (by omega)];rfl
   refine wpIn_region_any hdr.2 ?_;have hR1:Rel K base n st a {w with drawn:=w.drawn+1}:=by obtain⟨g,hI,hS,hO⟩:=hR;exact⟨g,E6 hI,EM.slots hS,hO⟩
   refine Oi hops hV' hdr.1 ops.size (List.range ops.size) _ st a _ (by simp) (by simp) List.pairwise_lt_range (λi=> ?_) hR1 (by rw[hmap];exact hok) (λa' w' hR'=> ?_)
   ·simp only[List.mem_range];constructor
    ·intro hi;refine⟨hi,?_⟩;simp[Array.getD_eq_getD_getElem?,hi]
    exact λh=>h.1
   rw[hmap] at hR';rcases hcd with hcd|hcd
   ·exact⟨base,⟨fY.refl _ _,λx=>x,λ_=>rfl⟩,_,Ib gs hcd (vo keep hR') hgs,hq⟩
   obtain⟨b',e1,e2,e3⟩:=Qm gs hcd.1 (vo keep hR') hgs;exact⟨b',⟨e1,λ_=>e2,λh=>absurd h hcd.2⟩,_,e3,hq⟩
 cases hc
theorem VM{a b:Bool}{p:Prop}(h:(a&&b)=true∨p):a=true∨p:=h.imp (λh=>by simp only[Bool.and_eq_true] at h;exact h.1) id
theorem VO{a b:Bool}{p:Prop}(h:(a&&b)=true∨p):b=true∨p:=h.imp (λh=>by simp only[Bool.and_eq_true] at h;exact h.2) id
theorem uE:∀(c:av) (x:Code) (r:Option Nat) (m:Nat) (Q:aB->ASt->Prop) (base:aZ) (st:ASt) (a:Act) (w:World),pC K n c x=true->(∀p∈ae c,VB K p)->sg c=true->(tF c=true∨(KU K base∧¬Cd))->awp K.E c Q st->Rel K base n st a w->x.wpIn (WF r) m K.P (HM K Cd base n Q) a w
 | .ghost g c,x,r,m,Q,base,st,a,w,hc,hv,hf,hcd,h,hR=>by
  simp only[pC] at hc;simp only[awp] at h;have hf':sg c=true:=by simpa only[sg] using hf
  rcases hcd with hcd|hcd
  ·simp only[tF,Bool.and_eq_true] at hcd;exact uE c x r m Q base _ a w hc hv hf' (.inl hcd.2) h.2 (vr g hcd.1 hR h.1)
  obtain⟨b',e1,e2,e3⟩:=Lv g hcd.1 hR h.1;exact wpIn_mono (uE c x r m Q b' _ a w hc hv hf' (.inr ⟨e2,hcd.2⟩) h.2 e3) (HC e1 (λ_=>e2) λh=>absurd h hcd.2)
 | .skip,x,r,m,Q,base,st,a,w,hc,hv,hf,hcd,h,hR=>by
  simp only[pC] at hc;simp only[awp] at h;split at hc
  ·exact wpIn_skip ⟨base,⟨fY.refl _ _,λx=>x,λ_=>rfl⟩,st,hR,h⟩
  ·exact wpIn_label ⟨base,⟨fY.refl _ _,λx=>x,λ_=>rfl⟩,st,hR,h⟩
  cases hc
 | .exit id,x,r,m,Q,base,st,a,w,hc,hv,hf,hcd,h,hR=>by
  simp only[pC] at hc;simp only[awp] at h;split at hc
  ·simp only[beq_iff_eq] at hc;subst hc;exact wpIn_exit ⟨base,⟨fY.refl _ _,λx=>x,λ_=>rfl⟩,st,hR,h⟩
  cases hc
 | .ret,x,r,m,Q,base,st,a,w,hc,hv,hf,hcd,h,hR=>by
  simp only[pC] at hc;simp only[awp] at h;split at hc
  ·exact wpIn_ret ⟨base,⟨fY.refl _ _,λx=>x,λ_=>rfl⟩,st,hR,h⟩
  cases hc
 | .bad,x,r,m,Q,base,st,a,w,hc,hv,hf,hcd,h,hR=>by simp only[awp] at h
 | .nm s c,x,r,m,Q,base,st,a,w,hc,hv,hf,hcd,h,hR=>by simp only[pC] at hc;simp only[awp] at h;obtain⟨q,cap,h1,h2⟩:=z0n s hR;exact uE c x r m Q base _ a w hc hv (by simpa only[sg] using hf) (by simpa only[tF] using hcd) (h q cap h1) h2
 | .alt p q,x,r,m,Q,base,st,a,w,hc,hv,hf,hcd,h,hR=>by
  simp only[pC,Bool.and_eq_true] at hc;simp only[awp] at h;simp only[ae,List.mem_append] at hv;simp only[sg,Bool.and_eq_true] at hf;rcases h with h|h
  ·exact uE p x r m Q base st a w hc.1 (λf hf=>hv f (.inl hf)) hf.1 (VM hcd) h hR
  exact uE q x r m Q base st a w hc.2 (λf hf=>hv f (.inr hf)) hf.2 (VO hcd) h hR
 | .region keep gs xs,x,r,m,Q,base,st,a,w,hc,hv,hf,hcd,h,hR=>P3 hc hv hcd h hR
 | .seq p q,x,r,m,Q,base,st,a,w,hc,hv,hf,hcd,h,hR=>by
  simp only[pC] at hc;simp only[awp] at h;simp only[ae,List.mem_append] at hv;simp only[sg,Bool.and_eq_true] at hf;split at hc
  ·rename_i y z;simp only[Bool.and_eq_true] at hc;refine wpIn_seq (wpIn_mono (uE p y r m _ base st a w hc.1 (λf hf=>hv f (.inl hf)) hf.1 (VM hcd) h hR) ?_);intro e a' w' hl;cases e<;>simp only[HM] at hl<;>simp only[Exit.then]
   ·obtain⟨b',⟨hE,hE',hE2⟩,st',hR',hq⟩:=hl;exact wpIn_mono (uE q z r m Q b' st' a' w' hc.2 (λf hf=>hv f (.inr hf)) hf.2 ((VO hcd).imp (λh=>h) λh=>⟨hE' h.1,h.2⟩) hq hR') (HC hE hE' hE2)
   ·exact hl
   exact hl
  cases hc
 | .cond c p q,x,r,m,Q,base,st,a,w,hc,hv,hf,hcd,h,hR=>by
  simp only[pC] at hc;simp only[awp] at h;simp only[ae,List.mem_append] at hv;simp only[sg,Bool.and_eq_true] at hf;split at hc
  ·rename_i c' y z;simp only[Bool.and_eq_true] at hc;obtain⟨⟨hcc,hy⟩,hz⟩:=hc;obtain⟨hb,ht,hf'⟩:=h;have hR':=hR;obtain⟨g,hI,hS,_⟩:=hR';obtain⟨_,hval⟩:=GA (o6 hI hS hcc) hb;refine wpIn_cond_split hval (λe=> ?_) (λe=> ?_)
   ·exact uE p y r m Q base st a w hy (λf hf=>hv f (.inl hf)) hf.1 (VM hcd) (ht e) hR
   exact uE q z r m Q base st a w hz (λf hf=>hv f (.inr hf)) hf.2 (VO hcd) (hf' e) hR
  cases hc
 | .scope b,x,r,m,Q,base,st,a,w,hc,hv,hf,hcd,h,hR=>by
  simp only[pC] at hc;simp only[awp] at h;simp only[sg] at hf;split at hc
  ·rename_i p;refine KZ (wpIn_mono (uE b p r m Q base st a w hc hv hf hcd h hR) ?_);intro e a' w' hl;cases e<;>simp only[HM] at hl<;>exact hl
  cases hc
 | .block id b,x,r,m,Q,base,st,a,w,hc,hv,hf,hcd,h,hR=>by
  simp only[pC] at hc;simp only[awp] at h;simp only[sg] at hf;split at hc
  ·rename_i id' p;simp only[Bool.and_eq_true,beq_iff_eq] at hc;obtain⟨rfl,hp⟩:=hc;refine wpIn_block (wpIn_mono (uE b p r m _ base st a w hp hv hf hcd h hR) ?_);intro e a' w' hl;cases e<;>simp only[HM] at hl<;>simp only[Exit.inBlock]
   ·exact hl
   ·rename_i id';obtain⟨b',hE,st',hR',hq⟩:=hl;simp only[dL] at hq;split
    ·rename_i he;rw[if_pos he] at hq;exact⟨b',hE,st',hR',hq⟩
    rename_i he;rw[if_neg he] at hq;exact⟨b',hE,st',hR',hq⟩
   exact hl
  cases hc
 | .loop b,x,r,m,Q,base,st,a,w,hc,hv,hf,hcd,h,hR=>by
  simp only[pC] at hc;simp only[awp] at h;simp only[sg] at hf;split at hc
  ·rename_i p;obtain⟨I,⟨k,hm⟩,hround⟩:=h;refine Du (λk a w=>∃b',(fY K base b'∧(KU K base->KU K b')∧(Cd->b'=base))∧∃st,Rel K b' n st a w∧I k st) ⟨base,⟨fY.refl _ _,λx=>x,λ_=>rfl⟩,st,hR,hm⟩ λk a w hj=> ?_;obtain⟨b',⟨hE,hE',hE2⟩,st',hR',hI⟩:=hj;refine wpIn_mono (uE b p r m _ b' st' a w hc hv hf (hcd.imp (λh=>h) λh=>⟨hE' h.1,h.2⟩) (hround _ st' hI) hR') ?_;intro e a' w' hl;have hl:=HC hE hE' hE2 e a' w' hl;cases e<;>simp only[HM] at hl<;>simp only[Exit.then]
   ·obtain⟨b2,hE2,st2,hR2,m',hlt,hI'⟩:=hl;exact⟨m',hlt,b2,hE2,st2,hR2,hI'⟩
   ·exact hl
   exact hl
  cases hc
 | .range f t ks ps as bd,x,r,m,Q,base,st,a,w,hc,hv,hf,hcd,h,hR=>by simp[sg] at hf
theorem Jh{ops:Array Oper}{base:aZ}{Q:Exit->Act->World->Prop}{r:Option Nat}{q:Nat}{rest:List Nat}:∀(xs:List af) (s:Nat) (st:ASt) (a:Act) (w:World),zV K n ops ((ops.toList.drop s).take xs.length) xs=true->(∀x∈xs,VOk K x.op)->Rel K base n st a w->
  Aa K.E xs st->(∀a' w',Rel K base n (C3 K.E xs st) a' w'->wpOpsIn (WF r) q K.P ops Q rest a' w')->wpOpsIn (WF r) q K.P ops Q (List.range' s xs.length++rest) a w
 |[],s,st,a,w,_,_,hR,_,hn=>by simpa using hn a w hR
 |x::xs,s,st,a,w,hc,hV,hR,hok,hn=>by
  cases hd:ops.toList.drop s with
  |nil=>rw[hd] at hc;simp[zV] at hc
  |cons o os=>
   rw[hd] at hc;simp only[List.length_cons,List.take_succ_cons,zV,Bool.and_eq_true] at hc;have hs:s<ops.size:=by
    have:(ops.toList.drop s).length≠0:=by rw[hd];simp
    simp at this;omega
   have ho:ops[s]? =some o:=by
    have:(ops.toList.drop s)[0]? =some o:=by rw[hd];rfl
    rw[List.getElem?_drop] at this;simpa using this
   have hos:ops.toList.drop (s+1)=os:=by rw[<-List.drop_drop,hd];rfl
   rw[List.length_cons,List.range'_succ,List.cons_append,wpOpsIn_cons];refine HY (oper:=o) (o:=x) hR ho hc.1 hok.1 (hV x (by simp)) λa' w' hR'=> ?_;exact Jh xs (s+1) _ a' w' (by rw[hos];exact hc.2) (λy hy=>hV y (by simp[hy])) hR' hok.2 hn
theorem U8{Cd:Prop}{base:aZ}{Q:aB->ASt->Prop}:∀e a w,HM K Cd base n Q e a w->Ii K base n Q e a w:=by
 intro e a w h;cases e<;>simp only[HM] at h<;>simp only[Ii]
 all_goals (obtain⟨b,⟨hb,_⟩,r⟩:=h;exact⟨b,hb,r⟩)
end
inductive gR where
 |t (s:Nat)
 |cell (s:Nat) (k:Option Nat) (id:Nat)
 |o (s:Nat)
 deriving Inhabited
structure nH where
 n:Nat
 wr:List Nat:=[]
 body:av
 res:List gR
def aR(i:Nat):List oH->List (Nat×oH)
 |[]=>[]
 |d::ds=>(i,d)::aR (i+1) ds
def fP(wr:List Nat)(ds:List oH):ASt:=
 {org:=(aR 0 ds).filter λp=> !wr.contains p.1
  env:=((aR 0 ds).filter λp=>wr.contains p.1).map λp=>(p.1,dem p.2)
  box:=[]}
def lr(st:ASt):gR->oH
 | .t s=>dem (st.get s)
 | .o s=>dem (st.get s)
 | .cell s k id=>match k with
  |none=>dem (hdA (aL st.getB (some id) (st.get s)))
  |some n=> .agg ((aL st.getB (some id) (st.get s)).take n)
def F5(st:ASt):gR->Prop
 | .t _=>True
 | .o _=>True
 | .cell s k id=>cA st.getB (some id) (k.getD 1) (st.get s)
def gj(st:ASt):List gR->oH
 |[.t s]=>st.get s
 |[r]=>lr st r
 |rs=> .tup (rs.map (lr st))
def jq(d:oH)(rest:List oH):oH:=match d with| .sl (.own e) nl n cs=> .otup e nl n cs rest|d=> .tup (dem d::rest)
def Rn(st:ASt)(rs:List gR):oH:=match rs with
 | .o s::r::rs=>jq (st.get s) ((r::rs).map (lr st))
 |rs=>gj st rs
def qH(res:List gR)(v:oH):aB->ASt->Prop
 | .normal,st| .ret,st=>(∀r∈res,F5 st r)∧Rn st res=v∧ak v=true
 |_,_=>False
def AJ(K:Cx):List gR->List ResultVar->Bool
 |[],[]=>true
 | .t s::rs,.tmp t::vs=>(s==t)&&AJ K rs vs
 | .o s::rs,.tmp t::vs=>(s==t)&&AJ K rs vs
 | .cell s k _::rs,.cell t ty::vs=>(s==t)&&TH K.P ty k&&(match k with|some n=>n !=0|none=>true)&&AJ K rs vs
 |_,_=>false
def pz(K:Cx)(f:nH)(fn:Func):Bool:=
 !(fn.name== "runtime.NumGoroutine")&&(match fn.body with|some c=>pC K fn.ntmps f.body c|none=>false)&&AJ K f.res fn.results.toList&&decide (f.n≤fn.ntmps)
section
variable {K : Cx} {base : aZ} {n : Nat} {st : ASt} {a : Act} {w : World}
theorem ag.len{K:Con}{S:Nat->Nat}{w:World}:∀{ds:List oH} {vs:List Value},ag K S w ds vs->ds.length=vs.length
 |[],_,h=>by simp only[ag] at h;subst h;rfl
 |_::_,_,h=>by simp only[ag] at h;obtain⟨x,xs,rfl,_,h2⟩:=h;simp[ag.len h2]
theorem ag.get{K:Con}{S:Nat->Nat}{w:World}:∀{ds:List oH} {vs:List Value},ag K S w ds vs->∀(i:Nat) (d:oH),ds[i]? =some d->∃v,vs[i]? =some v∧ap K S w d v
 |[],_,h,i,d,hd=>by simp at hd
 |c::cs,l,h,i,d,hd=>by
  simp only[ag] at h;obtain⟨x,xs,rfl,h1,h2⟩:=h;cases i with
  |zero=>simp at hd;subst hd;exact⟨x,by simp,h1⟩
  |succ i=>simp at hd;obtain⟨v,hv,hr⟩:=ag.get h2 i d hd;exact⟨v,by simpa using hv,hr⟩
theorem LC:∀(ds:List oH) (i s:Nat),lk (aR i ds) s=if i<=s then ds[s-i]? else none
 |[],i,s=>by simp[aR,lk]
 |d::ds,i,s=>by
  simp only[aR,lk];by_cases h:s=i
  ·subst h;simp
  rw[if_neg h,LC ds (i+1) s];by_cases hi:i<=s
  ·rw[if_pos hi,if_pos (by omega),show s-i=(s-(i+1))+1 by omega];simp
  rw[if_neg hi,if_neg (by omega)]
theorem M4(wr:List Nat)(ds:List oH)(s:Nat):lk (fP wr ds).org s=if s∈wr then none else ds[s]? :=by have:(fP wr ds).org=(aR 0 ds).filter λp=>(λk=> !wr.contains k) p.1:=rfl;rw[this,tz (λk=> !wr.contains k),LC];by_cases h:s∈wr<;>simp[h]
theorem ZU(wr:List Nat)(ds:List oH)(s:Nat):lk (fP wr ds).env s=if s∈wr then(ds[s]?).map dem else none:=by have:(fP wr ds).env=((aR 0 ds).filter λp=>(λk=>wr.contains k) p.1).map λp=>(p.1,dem p.2):=rfl;rw[this,Lt dem,tz (λk=>wr.contains k),LC];by_cases h:s∈wr<;>simp[h]
theorem Z7(wr:List Nat){S:Nat->Nat}{ds:List oH}{vs:List Value}(hg:∀n∈K.N.gs,am K.toCon S w (K.E.T n) (K.N.gnum n) 0)(h:ag K.toCon S w ds vs)(m:Nat)(hm:vs.length+m=n):
  Rel K ⟨w,λ_=>False,S,[],λ_=>none⟩ n (fP wr ds) {tmps:=vs.toArray++Array.replicate m undef,defers:=[]} w:=by
 have hlen:=h.len;have hget:∀s d,ds[s]? =some d->ap K.toCon S w d ((vs.toArray++Array.replicate m undef).getD s undef):=λs d hd=>by obtain⟨v,hv,hr⟩:=h.get s d hd;have hs:s<vs.length:=(List.getElem?_eq_some_iff.1 hv).1;rw[Array.getD_eq_getD_getElem?,Array.getElem?_append_left (by simpa using hs)];simpa[hv] using hr
 have hk:aP S w (aZ.S ⟨w,λ_=>False,S,[],λ_=>none⟩) w:=λb i x hi hc=>by refine⟨?_,hc⟩;have hb:b<w.heap.size:=World.block_lt_of_cell? w ⟨b,i,none⟩ hc;unfold aZ.S;rw[if_pos ⟨hb,λh=>h⟩];exact hi
 refine⟨{S:=S,ow:=λ_=>none,mu:=λ_=>none},{fr:=Fr.refl _ _ _,sS:=λ_ _ _=>rfl,inj:=λ_ _ _ h _=>(by cases h),bxok:=λid cs h=>by simp[ASt.getB,fP,lk] at h,nobx:=λ_ _=>rfl,muW:=λ_ _ h=>(by cases h),owW:=λ_ _ h=>(by cases h),glob:=hg,kp:=aP.refl _ _,obok:=λ_ _ _ _ h=>(by cases h),old:=λ_ _ _ _ h=>(by cases h)},λs=> ?_,λs d hs=> ?_,rfl,by simp;exact hm⟩
 ·unfold ASt.get;rw[ZU,M4];by_cases hs:s∈wr
  ·rw[if_pos hs];cases hd:ds[s]? with
   |none=>simp[hs,Abs.dem,Rep]
   |some d=>simp only[Option.map_some];exact ap.dem (g:=⟨S,_,_⟩) _ (hget s d hd)
  rw[if_neg hs,if_neg hs];cases hd:ds[s]? with
  |none=>simp[Abs.dem,Rep]
  |some d=>exact ap.dem (g:=⟨S,_,_⟩) _ (hget s d hd)
 rw[M4] at hs;split at hs
 ·cases hs
 exact ap.mono hk d _ (hget s d hs)
theorem LG{P:Program}{t:TypeId}{k:Option Nat}(hk:TH P t k=true){bk o:Nat}{vs:List Value}(hr:w.rangeAt bk o vs)(hn:k.getD 1<=vs.length):
  (loadVar t ⟨bk,o,none⟩).run P w= .ok (MA k vs) w:=by
 unfold MA;cases k with
 |none=>
  simp only[TH,Bool.and_eq_true] at hk;obtain⟨D,hu,hD⟩:=rT hk.1;cases vs with
  |nil=>simp at hn
  |cons v r=>have h0:=hr 0 v (by simp);simp only[Nat.add_zero] at h0;cases D<;>simp[TypeDesc.isRow] at hD<;>simp[loadVar,isAgg,run_underlying hu,h0]
 |some n=>
  simp only[TH,Bool.and_eq_true] at hk;obtain⟨D,hu,hD⟩:=rT hk.1;simp only[Option.getD_some] at hn;exact run_loadVar_mid w bk o t (vs.take n) D (λj v hv=>by
   rw[List.getElem?_take] at hv;split at hv
   ·exact hr j v hv
   cases hv) hu hD (by rw[List.length_take,Nat.min_eq_left hn];exact JL hk.2)
def zX(tmps:Array Value):ResultVar->Sem Value
 | .tmp t=>pure (tmps.getD t undef)
 | .cell a t=>do loadVar t (<-asAddr (tmps.getD a undef))
theorem HU{g:Gh}(hI:Inv K base g w st.getB)(hS:dI K g w st.get a):∀{rs:List gR} {vs:List ResultVar},AJ K rs vs=true->(∀r∈rs,F5 st r)->
  ∃xs,(List.mapM (zX a.tmps) vs).run K.P w= .ok xs w∧an K.toCon g w (rs.map (lr st)) xs∧(∀s,rs=[.t s]->xs=[a.tmps.getD s undef])∧(∀s r',rs= .o s::r'->∃ys,xs=a.tmps.getD s undef::ys)
 |[],[],_,_=>⟨[],by simp,by simp[an],by simp,by simp⟩
 |[],_::_,h,_=>by simp[AJ] at h
 | .t _::_,[],h,_=>by simp[AJ] at h
 | .o _::_,[],h,_=>by simp[AJ] at h
 | .o _::rs,.cell _ _::vs,h,_=>by simp[AJ] at h
 | .cell _ _ _::_,[],h,_=>by simp[AJ] at h
 | .t s::rs,.cell _ _::vs,h,_=>by simp[AJ] at h
 | .cell _ _ _::rs,.tmp _::vs,h,_=>by simp[AJ] at h
 | .t s::rs,.tmp t::vs,h,hok=>by
  simp only[AJ,Bool.and_eq_true,beq_iff_eq] at h;obtain⟨rfl,h⟩:=h;obtain⟨xs,h1,h2,h3⟩:=HU hI hS h (λr hr=>hok r (by simp[hr]));refine⟨a.tmps.getD s undef::xs,?_,?_,λs' hs'=> ?_,λs' r' hs'=>by simp at hs'⟩
  ·simp only[List.mapM_cons,zX,Sem.run_bind,Sem.run_pure,Result.andThen_ok,h1]
  ·simp only[List.map_cons,an,lr];exact⟨_,_,rfl,Rep.dem _ (hS s),h2⟩
  simp only[List.cons.injEq,gR.t.injEq] at hs';obtain⟨rfl,rfl⟩:=hs';have:=h2.len;simp at this;rw[List.length_eq_zero_iff.1 this.symm]
 | .o s::rs,.tmp t::vs,h,hok=>by
  simp only[AJ,Bool.and_eq_true,beq_iff_eq] at h;obtain⟨rfl,h⟩:=h;obtain⟨xs,h1,h2,h3⟩:=HU hI hS h (λr hr=>hok r (by simp[hr]));refine⟨a.tmps.getD s undef::xs,?_,?_,λs' hs'=>by simp at hs',λs' r' hs'=> ?_⟩
  ·simp only[List.mapM_cons,zX,Sem.run_bind,Sem.run_pure,Result.andThen_ok,h1]
  ·simp only[List.map_cons,an,lr];exact⟨_,_,rfl,Rep.dem _ (hS s),h2⟩
  simp only[List.cons.injEq,gR.o.injEq] at hs';obtain⟨rfl,rfl⟩:=hs';exact⟨xs,rfl⟩
 | .cell s k id::rs,.cell t ty::vs,h,hok=>by
  simp only[AJ,Bool.and_eq_true,beq_iff_eq] at h;obtain⟨⟨⟨rfl,hk⟩,hn0⟩,h⟩:=h;obtain⟨xs,h1,h2,h3⟩:=HU hI hS h (λr hr=>hok r (by simp[hr]));have hpos:0<k.getD 1:=by
   cases k with
   |none=>simp
   |some n=>simp at hn0⊢;omega
  have hok1:=hok (.cell s k id) (by simp);simp only[F5] at hok1;obtain⟨bk,off,ws,hv,hr,hrl,hn⟩:=RS hI hok1 hpos (EJ (hS s));refine⟨MA k ws::xs,?_,?_,λs' hs'=>by simp at hs',λs' r' hs'=>by simp at hs'⟩
  ·simp only[List.mapM_cons,zX,Sem.run_bind,hv,asAddr,Sem.run_pure,Result.andThen_ok,LG hk hr hn,h1]
  simp only[List.map_cons,an,lr];refine⟨_,_,rfl,?_,h2⟩;cases k with
  |some n=>simp only[Rep,MA];exact⟨_,rfl,by simpa using hrl.take n⟩
  |none=>
   simp only[MA];cases hcs:aL st.getB (some id) (st.get s) with
   |nil=>have:=hrl.len;rw[hcs] at this;simp at this hn;omega
   |cons c cs=>rw[hcs] at hrl;simp only[an] at hrl;obtain⟨v,r,rfl,h1,_⟩:=hrl;exact Rep.dem _ h1
def Th(K:Cx)(b:av):Prop:=∀(n:Nat) (x:Code) (Q:aB->ASt->Prop) (base:aZ) (st:ASt) (a:Act) (w:World),pC K n b x=true->(tF b=true∨KU K base)->awp K.E b Q st->Rel K base n st a w->x.wpIn (WF none) 0 K.P (Ii K base n Q) a w
theorem AD{b:av}(hv:∀p∈ae b,VB K p)(hf:sg b=true):Th K b:=λn x Q base st a w hc ht h hR=>wpIn_mono (uE (Cd:=False) b x none 0 Q base st a w hc hv hf (ht.imp (λh=>h) λh=>⟨h,λh=>h⟩) h hR) U8
theorem Vx{b:av}(hv:∀p∈ae b,VB K p)(hi:∀f∈yB b,uu K f (K.E.I f))(hfl:Ai b=true)(ht:(tF b||sg b)=true):Th K b:=λn x Q base st a w hc hF h hR=>by
 cases hcold:tF b with
 |true=>exact sR b x none 0 _ _ _ _ w hc hv hi (.inr ⟨rfl,hfl⟩) hcold h hR
 |false=>rw[hcold,Bool.false_or] at ht;exact AD hv ht n x Q base st a w hc hF h hR
theorem Hc{f:Nat}{fn:Func}{F:nH}{c:aW}(hf:K.P.funcs[K.nu f]? =some fn)(hc:pz K F fn=true)(hs:Th K F.body)
  (h:∀ds,c.pre ds->ds.length=F.n∧awp K.E F.body (qH F.res (c.post ds)) (fP F.wr ds)):oK K f c:=by
 simp only[pz,Bool.and_eq_true,Bool.not_eq_true',decide_eq_true_eq] at hc;obtain⟨⟨⟨hname,hbody⟩,hres⟩,hsz⟩:=hc;cases hb:fn.body with
 |none=>rw[hb] at hbody;cases hbody
 |some code=>
  rw[hb] at hbody;simp only at hbody;refine⟨⟨fn,hf,by rw[hb];rfl,hname⟩,λS w ds vs hg hds hpre=> ?_⟩;obtain⟨hlen,hw⟩:=h ds hpre;have hl2:=hds.len;refine callsIn_wide.1 (callsIn_of_wp_marks (F:=WF none) (n:=0) hf hb (Mu none _) ?_);have hR:=Z7 (n:=fn.ntmps) F.wr hg hds (fn.ntmps-vs.length) (by omega);have hwp:=hs fn.ntmps code _ _ _ _ w hbody (.inr ⟨λ_ h=>False.elim h,hg⟩) hw hR;simp only[List.size_toArray];refine wpIn_mono hwp λe a' w' hl=> ?_;have fin:∀st g w',Inv K ⟨w,λ_=>False,S,[],λ_=>none⟩ g w' st.getB->dI K g w' st.get a'->((∀r∈F.res,F5 st r)∧Rn st F.res=c.post ds∧ak (c.post ds)=true)->
    ∃v,(results fn a'.tmps).run K.P w'= .ok v w'∧∃v' g',Ending.returned v= .returned v'∧Fr w.heap.size (λ_=>False) w w'∧Rep K.toCon g' w' (some .ret) (c.post ds) v'∧
     (∀b l,g'.ow b=some l->w.heap.size<=b∧b<w'.heap.size)∧∀b,b<w.heap.size->g'.S b=S b:=λst g w' hI hS hq=>by
   obtain⟨hok,hval,hpure⟩:=hq;obtain⟨xs,h1,h2,h3,h3o⟩:=HU hI hS hres hok;have hmap:fn.results.mapM (zX a'.tmps)=Functor.map List.toArray (fn.results.toList.mapM (zX a'.tmps)):=by exact Array.mapM_eq_mapM_toList
   have hrun:(results fn a'.tmps).run K.P w'= .ok (if h:xs.toArray.size=1 then xs.toArray[0] else .tuple xs.toArray) w':=by
    have:results fn a'.tmps=(do
     let vs<-fn.results.mapM (zX a'.tmps)
     pure (if h:vs.size=1 then vs[0] else .tuple vs)):=rfl
    rw[this,hmap];simp only[map_eq_pure_bind,Sem.run_bind,h1,Result.andThen_ok,Sem.run_pure]
   refine⟨_,hrun,?_⟩;have how:∀b l,g.ow b=some l->w.heap.size<=b∧b<w'.heap.size:=λb l hb=>by obtain⟨k1,k2⟩:=hI.owW b l hb;exact⟨k1.resolve_right (λh=>h),k2⟩
   have hSb:∀b,b<w.heap.size->g.S b=S b:=λb hb=>hI.sS b hb (λh=>h);by_cases hone:∃s,F.res=[.t s]
   ·obtain⟨s,hs⟩:=hone;have hx:=h3 s hs;subst hx;rw[hs] at hval;simp only[Rn,gj] at hval;refine⟨a'.tmps.getD s undef,wT g (.slot s) .ret,by simp,hI.fr,?_,λb l hb=> ?_,hSb⟩
    ·rw[<-hval];exact ta (hS s)
    simp only[wT] at hb;split at hb
    ·rename_i he;exact how b _ he
    exact how b l hb
   have hl3:=h2.len;simp only[List.length_map] at hl3;have rest:∀{d:oH} {v:Value},Rep K.toCon g w' none d v->ao d=false->d=c.post ds->Rep K.toCon g w' (some .ret) (c.post ds) v:=λ{d v} hr ho he=>by rw[<-he];exact Bv _ ho hr
   have hdem:∀d:oH,ao (dem d)=false:=AF;cases hF:F.res with
   |nil=>rw[hF] at h2 hval hl3;simp only[List.map_nil,an] at h2;subst h2;refine⟨_,g,rfl,hI.fr,?_,how,hSb⟩;refine rest (d:= .tup []) ?_ rfl (by rw[<-hval];rfl);simp[Rep,an]
   |cons r rs=>
    rw[hF] at h2 hval hl3 hone;cases rs with
    |nil=>
     simp only[List.map_cons,List.map_nil,an] at h2;obtain⟨x,ys,rfl,h4,rfl⟩:=h2;refine⟨x,g,by simp,hI.fr,?_,how,hSb⟩;cases r with
     |t s=>exact absurd ⟨s,rfl⟩ hone
     |o s=>simp only[Rn,gj] at hval;exact rest h4 (hdem _) hval
     |cell s k id=>
      simp only[Rn,gj] at hval;refine rest h4 ?_ hval;cases k with
      |none=>exact hdem _
      |some n=>rfl
    |cons r2 rs=>
     have h5:¬(xs.toArray.size=1):=by simp only[List.size_toArray,<-hl3,List.length_cons];omega
     have dflt:c.post ds= .tup ((r::r2::rs).map (lr st))->∃v' g',(.returned (if h:xs.toArray.size=1 then xs.toArray[0] else .tuple xs.toArray):Ending)= .returned v'∧Fr w.heap.size (λ_=>False) w w'∧Rep K.toCon g' w' (some .ret) (c.post ds) v'∧
       (∀b l,g'.ow b=some l->w.heap.size<=b∧b<w'.heap.size)∧∀b,b<w.heap.size->g'.S b=S b:=λhe=>by
      refine⟨.tuple xs.toArray,g,by rw[dif_neg h5],hI.fr,?_,how,hSb⟩;refine rest (d:= .tup ((r::r2::rs).map (lr st))) ?_ rfl he.symm;simp only[Rep];exact⟨_,rfl,by simpa using h2⟩
     cases r with
     |t s=>exact dflt (by rw[<-hval];rfl)
     |cell s k id=>exact dflt (by rw[<-hval];rfl)
     |o s=>
      have hval':jq (st.get s) ((r2::rs).map (lr st))=c.post ds:=hval;unfold jq at hval';split at hval'
      ·rename_i e nl n cs hget;obtain⟨ys,hys⟩:=h3o s _ hF;have hm:=ta (l1:= .ret) (Bp hS s);rw[hget] at hm;simp only[Rep] at hm;simp only[List.map_cons,an] at h2;obtain⟨x,zs,hx,_,h6⟩:=h2;rw[hys] at hx;simp only[List.cons.injEq] at hx;obtain⟨rfl,rfl⟩:=hx;refine⟨.tuple xs.toArray,wT g (.slot s) .ret,by rw[dif_neg h5],hI.fr,?_,λb l hb=> ?_,hSb⟩
       ·rw[<-hval'];simp only[Rep];refine⟨xs.toArray,_,ys,rfl,hys,hm,?_⟩;exact an.mono (g:=g) (g':=wT g (.slot s) .ret) (aP.refl g.S w') ((r2::rs).map (lr st)) ys (λ_ _ _ h=>h) (by simpa[an] using h6)
       simp only[wT] at hb;split at hb
       ·rename_i he;exact how b _ he
       exact how b l hb
      rename_i d hd;exact dflt (by rw[<-hval'];rfl)
  cases e<;>simp only[Ii] at hl<;>simp only[bodyPostM]
  ·obtain⟨b',hE,st,hR',hq⟩:=hl;exact Tn hE rfl hR' λg w' hI hS hO=>fin st g w' hI hS hq
  ·obtain⟨b',hE,st,_,hq⟩:=hl;exact hq
  obtain⟨b',hE,st,hR',hq⟩:=hl;exact Tn hE rfl hR' λg w' hI hS hO=>fin st g w' hI hS hq
theorem JI{f:Nat}{fn:Func}{F:nH}{c:aW}(hf:K.P.funcs[K.nu f]? =some fn)(hc:pz K F fn=true)(hv:∀p∈ae F.body,VB K p)
  (h:∀ds,c.pre ds->ds.length=F.n∧awp K.E F.body (qH F.res (c.post ds)) (fP F.wr ds)) (hi:∀f∈yB F.body,uu K f (K.E.I f)) (hfl:Ai F.body=true) (ht:(tF F.body||sg F.body)=true):oK K f c:=Hc hf hc (Vx hv hi hfl ht) h
theorem CY{f:Nat}{fn:Func}{F:nH}{c:aW}(hf:K.P.funcs[K.nu f]? =some fn)(hc:pz K F fn=true)(hv:∀p∈ae F.body,VB K p)
  (h:∀ds,c.pre ds->ds.length=F.n∧awp K.E F.body (qH F.res (c.post ds)) (fP F.wr ds)) (hfl:sg F.body=true):oK K f c:=Hc hf hc (AD hv hfl) h
end
def mV(bx:List Nat):Nat->List oH->List (Nat×oH)
 |_,[]=>[]
 |i,d::ds=>(i,if bx.contains i then .bp i 0 else dem d)::mV bx (i+1) ds
def nW(bx:List Nat)(p:Nat->Value)(ds:List oH):ASt:=
 {org:=bx.map λj=>(j,.lit (p j)),env:=mV bx 0 ds,box:=bx.map λj=>(j,some (dg (ds.getD j .undef)))}
def PY(res:List gR)(c:CM)(p:Nat->Value)(ds:List oH):aB->ASt->Prop
 | .normal,st| .ret,st=>(∀r∈res,F5 st r)∧gj st res=c.post ds∧(∀j∈c.bx,lk st.org j=some (.lit (p j))∧st.get j= .bp j 0)∧(∀j∈c.bx++c.nb,st.getB j=some (c.out ds j))∧
  (∀id∈aF (c.post ds),id∈c.bx++c.nb)∧(∀j∈c.bx++c.nb,∀id∈pT (c.out ds j),id∈c.bx++c.nb)
 |_,_=>False
section
variable {K : Cx} {base : aZ} {n : Nat} {st : ASt} {a : Act} {w : World}
theorem Pw(bx:List Nat):∀(ds:List oH) (i s:Nat),lk (mV bx i ds) s=if i<=s then(ds[s-i]?).map λd=>if bx.contains s then oH.bp s 0 else dem d else none
 |[],i,s=>by simp[mV,lk]
 |d::ds,i,s=>by
  simp only[mV,lk];by_cases h:s=i
  ·subst h;simp
  rw[if_neg h,Pw bx ds (i+1) s];by_cases hi:i<=s
  ·rw[if_pos hi,if_pos (by omega),show s-i=(s-(i+1))+1 by omega];simp
  rw[if_neg hi,if_neg (by omega)]
theorem FU{α:Type}(f:Nat->α)(s:Nat):∀l:List Nat,lk (l.map λs=>(s,f s)) s=if s∈l then some (f s) else none
 |[]=>by simp[lk]
 |t::l=>by
  simp only[List.map_cons,lk,List.mem_cons];by_cases h:s=t
  ·subst h;simp
  rw[if_neg h,FU f s l];simp only[h,false_or]
theorem U3{g:Gh}{c:CM}{ds:List oH}{vs:List Value}(hI:Inv K ⟨w,Wr g,g.S,[],g.mu⟩ g w (c.ins ds))(hA:WR K c g w ds vs)(hb:∀j∈c.bx,j<ds.length)(m:Nat)(hm:vs.length+m=n):
  Rel K ⟨w,Wr g,g.S,[],g.mu⟩ n (nW c.bx (λj=> .pointer (some ⟨(g.mu j).getD 0,0,none⟩)) ds) {tmps:=vs.toArray++Array.replicate m undef,defers:=[]} w:=by
 obtain⟨hlen,hA⟩:=hA;have hget:∀s v,vs[s]? =some v->(vs.toArray++Array.replicate m undef).getD s undef=v:=λs v hv=>by have hs:s<vs.length:=(List.getElem?_eq_some_iff.1 hv).1;rw[Array.getD_eq_getD_getElem?,Array.getElem?_append_left (by simpa using hs)];simp[hv]
 have harg:∀s d,ds[s]? =some d->∃v,vs[s]? =some v∧if s∈c.bx then∃b,g.mu s=some b∧v= .pointer (some ⟨b,0,none⟩) else ap K.toCon g.S w d v:=λs d hd=>by
  have hs:s<vs.length:=by have:=(List.getElem?_eq_some_iff.1 hd).1;omega
  exact⟨vs[s],List.getElem?_eq_getElem hs,hA s d _ hd (List.getElem?_eq_getElem hs)⟩
 have hgb:(nW c.bx (λj=> .pointer (some ⟨(g.mu j).getD 0,0,none⟩)) ds).getB=c.ins ds:=funext λj=>by simp only[ASt.getB,nW,FU λj=>some (dg (ds.getD j .undef)),CM.ins];split<;>rfl
 have horg:∀s,lk (nW c.bx (λj=> .pointer (some ⟨(g.mu j).getD 0,0,none⟩)) ds).org s=if s∈c.bx then some (.lit (.pointer (some ⟨(g.mu s).getD 0,0,none⟩))) else none:=λs=>FU (λj=>oH.lit (.pointer (some ⟨(g.mu j).getD 0,0,none⟩))) s c.bx;refine⟨g,by rw[hgb];exact hI,λs=> ?_,λs d hs=> ?_,rfl,by simp;exact hm⟩
 ·unfold ASt.get;rw[horg];show Rep K.toCon g w (some (.slot s)) (match lk (mV c.bx 0 ds) s with|some d=>d|none=>_) _;rw[Pw,if_pos (Nat.zero_le _),Nat.sub_zero];cases hd:ds[s]? with
  |none=>
   have hns:s∉c.bx:=λh=>by have:=hb s h;rw[List.getElem?_eq_none_iff] at hd;omega
   simp[hns,Abs.dem,Rep]
  |some d=>
   obtain⟨v,hv,hr⟩:=harg s d hd;rw[hget s v hv];simp only[Option.map_some,List.contains_iff_mem];by_cases hs:s∈c.bx
   ·rw[if_pos hs] at hr⊢;obtain⟨b,hb,rfl⟩:=hr;simp only[Rep];exact⟨b,hb,rfl⟩
   rw[if_neg hs] at hr⊢;exact ap.dem (g:=g) _ hr
 rw[horg] at hs;split at hs
 ·rename_i hm;cases hs;obtain⟨v,hv,hr⟩:=harg s _ (List.getElem?_eq_getElem (hb s hm));rw[if_pos hm] at hr;obtain⟨b,hb,rfl⟩:=hr;show ap _ _ _ _ _;rw[hget s _ hv];simp[ap,hb]
 cases hs
theorem Sb{g:Gh}{getB:Nat->Option (List oH)}(hI:Inv K base g w getB)(js:List Nat){out:Nat->List oH}(h1:∀j∈js,getB j=some (out j))(h2:∀j∈js,∀id∈pT (out j),id∈js):
  Inv K base {g with mu:=λj=>if j∈js then g.mu j else none} w (λj=>if j∈js then some (out j) else none):=by
 refine⟨hI.fr,hI.sS,λi j b hi hj=> ?_,λid cs hc=> ?_,λid hid=> ?_,λid b hb=> ?_,hI.owW,hI.glob,hI.kp,λid b cs ho hb hc hd=> ?_,λid b h3 h4 hb=>by
  replace hb:(if id∈js then g.mu id else none)=some b:=hb
  split at hb
  ·exact hI.old id b h3 h4 hb
  cases hb⟩
 ·replace hi:(if i∈js then g.mu i else none)=some b:=hi
  replace hj:(if j∈js then g.mu j else none)=some b:=hj
  split at hi
  ·split at hj
   ·exact hI.inj i j b hi hj
   cases hj
  cases hi
 ·split at hc
  ·rename_i hm;cases hc;obtain⟨b,k1,k2,k3⟩:=hI.bxok id _ (h1 id hm);refine⟨b,by simp only[if_pos hm];exact k1,k2,λi d hi=> ?_⟩;obtain⟨⟨x,h4,h5⟩,h6⟩:=k3 i d hi;exact⟨⟨x,h4,Rep.mono (g:=g) (g':={g with mu:=λj=>if j∈js then g.mu j else none}) (aP.refl g.S w) d x (some (.cell id i)) (some (.cell id i)) (λid' hid' b' hb'=>by show(if id'∈js then g.mu id' else none)=some b';rw[if_pos (h2 id hm id' (F7 (sj hi) hid'))];exact hb') (λm hm=>⟨m,hm,λb hb=>⟨hb,rfl,rfl⟩⟩) h5⟩,h6⟩
  cases hc
 ·show(if id∈js then g.mu id else none)=none
  replace hid:(if id∈js then some (out id) else none)=none:=hid
  split at hid
  ·cases hid
  rename_i hm;rw[if_neg hm]
 ·replace hb:(if id∈js then g.mu id else none)=some b:=hb
  split at hb
  ·exact hI.muW id b hb
  cases hb
 replace hb:(if id∈js then g.mu id else none)=some b:=hb
 split at hb
 ·rename_i hm;rw[if_pos hm] at hc;cases hc;exact hI.obok id b _ ho hb (h1 id hm) hd
 cases hb
theorem Kl{f:Nat}{fn:Func}{F:nH}{c:CM}(hf:K.P.funcs[K.nu f]? =some fn)(hc:pz K F fn=true)(hs:Th K F.body)(hb:∀j∈c.bx,j<F.n)
  (h:∀ds p,c.pre ds->ds.length=F.n∧awp K.E F.body (PY F.res c p ds) (nW c.bx p ds)) (ht:tF F.body=true):ru K f c:=by
 simp only[pz,Bool.and_eq_true,Bool.not_eq_true',decide_eq_true_eq] at hc;obtain⟨⟨⟨hname,hbody⟩,hres⟩,hsz⟩:=hc;cases hbd:fn.body with
 |none=>rw[hbd] at hbody;cases hbody
 |some code=>
  rw[hbd] at hbody;simp only at hbody;refine⟨⟨fn,hf,by rw[hbd];rfl,hname⟩,λg0 w ds vs hI0 hA hpre=> ?_⟩;obtain⟨hlen,hw⟩:=h ds (λj=> .pointer (some ⟨(g0.mu j).getD 0,0,none⟩)) hpre;have hl2:=hA.1;refine callsIn_wide.1 (callsIn_of_wp_marks (F:=WF none) (n:=0) hf hbd (Mu none _) ?_);have hR:=U3 (n:=fn.ntmps) hI0 hA (λj hj=>by rw[hlen];exact hb j hj) (fn.ntmps-vs.length) (by omega);have hwp:=hs fn.ntmps code _ _ _ _ w hbody (.inl ht) hw hR;simp only[List.size_toArray];refine wpIn_mono hwp λe a' w' hl=> ?_;have fin:∀st g w',Inv K ⟨w,Wr g0,g0.S,[],g0.mu⟩ g w' st.getB->dI K g w' st.get a'->(∀j∈c.bx,lk st.org j=some (.lit (.pointer (some ⟨(g0.mu j).getD 0,0,none⟩)))->a'.tmps.getD j undef= .pointer (some ⟨(g0.mu j).getD 0,0,none⟩))->PY F.res c (λj=> .pointer (some ⟨(g0.mu j).getD 0,0,none⟩)) ds .ret st->
    ∃v,(results fn a'.tmps).run K.P w'= .ok v w'∧∃v' g',Ending.returned v= .returned v'∧Inv K ⟨w,Wr g0,g0.S,[],g0.mu⟩ g' w' (c.outs ds)∧(∀j∈c.bx,g'.mu j=g0.mu j)∧Rep K.toCon g' w' (some .ret) (c.post ds) v':=λst g w' hI hS hO hq=>by
   obtain⟨hok,hval,hbx,hout,hr1,hr2⟩:=hq;obtain⟨xs,h1,h2,h3,_⟩:=HU hI hS hres hok;have hmap:fn.results.mapM (zX a'.tmps)=Functor.map List.toArray (fn.results.toList.mapM (zX a'.tmps)):=by exact Array.mapM_eq_mapM_toList
   have hrun:(results fn a'.tmps).run K.P w'= .ok (if h:xs.toArray.size=1 then xs.toArray[0] else .tuple xs.toArray) w':=by
    have:results fn a'.tmps=(do
     let vs<-fn.results.mapM (zX a'.tmps)
     pure (if h:vs.size=1 then vs[0] else .tuple vs)):=rfl
    rw[this,hmap];simp only[map_eq_pure_bind,Sem.run_bind,h1,Result.andThen_ok,Sem.run_pure]
   refine⟨_,hrun,?_⟩
   let g':Gh:={g with mu:=λj=>if j∈c.bx++c.nb then g.mu j else none}
   have hI':Inv K ⟨w,Wr g0,g0.S,[],g0.mu⟩ g' w' (c.outs ds):=Sb hI (c.bx++c.nb) hout hr2;have hmu:∀j∈c.bx,g'.mu j=g0.mu j:=λj hj=>by obtain⟨k1,k2⟩:=hbx j hj;have e1:=hO j hj k1;have e2:=hS j;rw[k2] at e2;simp only[Rep] at e2;obtain⟨b,hb1,hb2⟩:=e2;rw[hb2] at e1;simp only[Value.pointer.injEq,Option.some.injEq,Addr.mk.injEq,and_true] at e1;obtain⟨d,hd⟩:∃d,ds[j]? =some d:=⟨_,List.getElem?_eq_getElem (by rw[hlen];exact hb j hj)⟩;have:=hA.2 j d (vs[j]'(by rw[<-hl2,hlen];exact hb j hj)) hd (List.getElem?_eq_getElem _);rw[if_pos hj] at this;obtain⟨b',hb',_⟩:=this;rw[hb'] at e1;simp only[Option.getD_some] at e1;simp only[g',if_pos (List.mem_append_left c.nb hj)];rw[hb1,hb',e1]
   have cut:∀{d:oH} {v:Value} {l:Option Loc},(∀id∈aF d,id∈c.bx++c.nb)->Rep K.toCon g w' l d v->Rep K.toCon g' w' l d v:=λ{d v l} hd hr=>Rep.mono (g:=g) (g':=g') (aP.refl g.S w') d v l l (λid hid b hb=>by simp only[g',if_pos (hd id hid)];exact hb) (λm hm=>⟨m,hm,λb hb=>⟨hb,rfl,rfl⟩⟩) hr;by_cases hone:∃s,F.res=[.t s]
   ·obtain⟨s,hs⟩:=hone;have hx:=h3 s hs;subst hx;rw[hs] at hval;simp only[gj] at hval;refine⟨a'.tmps.getD s undef,wT g' (.slot s) .ret,by simp,B1 hI' s .ret,hmu,?_⟩;rw[<-hval] at hr1⊢;exact ta (cut hr1 (hS s))
   have hl3:=h2.len;simp only[List.length_map] at hl3;have rest:∀{d:oH} {v:Value},Rep K.toCon g w' none d v->ao d=false->d=c.post ds->Rep K.toCon g' w' (some .ret) (c.post ds) v:=λ{d v} hr ho he=>by subst he;exact Bv _ ho (cut hr1 hr)
   have hdem:∀d:oH,ao (dem d)=false:=AF;cases hF:F.res with
   |nil=>rw[hF] at h2 hval hl3;simp only[List.map_nil,an] at h2;subst h2;refine⟨_,g',rfl,hI',hmu,?_⟩;refine rest (d:= .tup []) ?_ rfl (by rw[<-hval];rfl);simp[Rep,an]
   |cons r rs=>
    rw[hF] at h2 hval hl3 hone;cases rs with
    |nil=>
     simp only[List.map_cons,List.map_nil,an] at h2;obtain⟨x,ys,rfl,h4,rfl⟩:=h2;refine⟨x,g',by simp,hI',hmu,?_⟩;cases r with
     |t s=>exact absurd ⟨s,rfl⟩ hone
     |o s=>simp only[gj] at hval;exact rest h4 (hdem _) hval
     |cell s k id=>
      simp only[gj] at hval;refine rest h4 ?_ hval;cases k with
      |none=>exact hdem _
      |some n=>rfl
    |cons r2 rs=>
     have h5:¬(xs.toArray.size=1):=by simp only[List.size_toArray,<-hl3,List.length_cons];omega
     refine⟨.tuple xs.toArray,g',by rw[dif_neg h5],hI',hmu,?_⟩;refine rest (d:= .tup ((r::r2::rs).map (lr st))) ?_ rfl (by rw[<-hval];cases r<;>rfl);simp only[Rep];exact⟨_,rfl,by simpa using h2⟩
  cases e<;>simp only[Ii] at hl<;>simp only[bodyPostM]
  ·obtain⟨b',hE,st,hR',hq⟩:=hl;exact Tn hE rfl hR' λg w' hI hS hO=>fin st g w' hI hS (λj _ hj=>by have:=hO j _ hj;simpa[ap] using this) hq
  ·obtain⟨b',hE,st,_,hq⟩:=hl;exact hq
  obtain⟨b',hE,st,hR',hq⟩:=hl;exact Tn hE rfl hR' λg w' hI hS hO=>fin st g w' hI hS (λj _ hj=>by have:=hO j _ hj;simpa[ap] using this) hq
theorem yE{f:Nat}{fn:Func}{F:nH}{c:CM}(hf:K.P.funcs[K.nu f]? =some fn)(hc:pz K F fn=true)(hv:∀p∈ae F.body,VB K p)(hb:∀j∈c.bx,j<F.n)
  (h:∀ds p,c.pre ds->ds.length=F.n∧awp K.E F.body (PY F.res c p ds) (nW c.bx p ds)) (hfl:sg F.body=true) (ht:tF F.body=true):ru K f c:=Kl hf hc (AD hv hfl) hb h ht
end
def u8(x:UInt8):oH:= .lit (.int .u8 x.toNat)
def u32(x:UInt32):oH:= .lit (.int .u32 x.toNat)
def u64(x:UInt64):oH:= .lit (.int .u64 x.toNat)
def i64(x:Int):oH:= .lit (.int .i64 x)
def bo(x:Bool):oH:= .lit (.bool x)
def st(l:List UInt8):oH:= .lit (.string ⟨l.toArray⟩)
def bys(l:List UInt8):List oH:=l.map u8
def bg(l:List UInt32):List oH:=l.map u32
def W(n:Int):Int:=IntKind.i64.wrap n
theorem fJ{n:Int}(h0: -9223372036854775808<=n)(h1:n<=9223372036854775807):W n=n:=by unfold W IntKind.wrap IntKind.bits IntKind.signed;simp only[Bool.true_and,decide_eq_true_eq];split<;>omega
theorem bA(n:Nat):IntKind.u8.wrap (n:Int)=((n% 256:Nat):Int):=by unfold IntKind.wrap IntKind.bits IntKind.signed;simp
theorem GI(n:Nat):IntKind.u32.wrap (n:Int)=((n% 4294967296:Nat):Int):=by unfold IntKind.wrap IntKind.bits IntKind.signed;simp
theorem aY(n:Nat):IntKind.u64.wrap (n:Int)=((n% 18446744073709551616:Nat):Int):=by unfold IntKind.wrap IntKind.bits IntKind.signed;simp
section looks
@[simp] theorem eX(x:UInt8):asI (u8 x)=x.toNat:=rfl
@[simp] theorem gK(x:UInt32):asI (u32 x)=x.toNat:=rfl
@[simp] theorem gQ(x:UInt64):asI (u64 x)=x.toNat:=rfl
@[simp] theorem dq(x:Int):asI (i64 x)=x:=rfl
@[simp] theorem z6j(x:Bool):asB (bo x)=x:=rfl
@[simp] theorem asS_st(l:List UInt8):asS (st l)=⟨l.toArray⟩:=rfl
@[simp] theorem isB_bo(x:Bool):isB (bo x)↔True:=by simp[isB,bo]
@[simp] theorem isI_u8(x:UInt8):isI (u8 x)↔True:=by simp[isI,u8]
@[simp] theorem z7wa(x:UInt32):isI (u32 x)↔True:=by simp[isI,u32]
@[simp] theorem oz(x:UInt64):isI (u64 x)↔True:=by simp[isI,u64]
@[simp] theorem nF(x:Int):isI (i64 x)↔True:=by simp[isI,i64]
@[simp] theorem mW(x:UInt8):z5E .u8 (u8 x)↔True:=by simp[z5E,u8]
@[simp] theorem isS_st(l:List UInt8):isS (st l)↔True:=by simp[isS,st]
@[simp] theorem dem_u8(x:UInt8):dem (u8 x)=u8 x:=rfl
@[simp] theorem oa(x:UInt32):dem (u32 x)=u32 x:=rfl
@[simp] theorem z5wa(x:UInt64):dem (u64 x)=u64 x:=rfl
@[simp] theorem mS(x:Int):dem (i64 x)=i64 x:=rfl
@[simp] theorem dem_bo(x:Bool):dem (bo x)=bo x:=rfl
@[simp] theorem dem_st(x:List UInt8):dem (st x)=st x:=rfl
@[simp] theorem j7(x:UInt8):ah (u8 x)↔True:=by simp[ah,u8]
@[simp] theorem iE(x:UInt32):ah (u32 x)↔True:=by simp[ah,u32]
@[simp] theorem il(x:UInt64):ah (u64 x)↔True:=by simp[ah,u64]
@[simp] theorem iC(x:Int):ah (i64 x)↔True:=by simp[ah,i64]
@[simp] theorem kL(x:Bool):ah (bo x)↔True:=by simp[ah,bo]
@[simp] theorem kx(x:List UInt8):ah (st x)↔True:=by simp[ah,st]
@[simp] theorem mw(x:UInt8):ak (u8 x)=true:=rfl
@[simp] theorem kn(x:UInt32):ak (u32 x)=true:=rfl
@[simp] theorem kt(x:UInt64):ak (u64 x)=true:=rfl
@[simp] theorem jT(x:Int):ak (i64 x)=true:=rfl
@[simp] theorem mn(x:Bool):ak (bo x)=true:=rfl
@[simp] theorem lQ(x:List UInt8):ak (st x)=true:=rfl
@[simp] theorem iV(x:UInt8):aC (u8 x)=true:=rfl
@[simp] theorem z7G(x:UInt32):aC (u32 x)=true:=rfl
@[simp] theorem f9(x:UInt64):aC (u64 x)=true:=rfl
@[simp] theorem gL(x:Int):aC (i64 x)=true:=rfl
@[simp] theorem iB(x:Bool):aC (bo x)=true:=rfl
@[simp] theorem ia(x:List UInt8):aC (st x)=true:=rfl
@[simp] theorem nC(x:UInt8):aF (u8 x)=[]:=rfl
@[simp] theorem z2qa(x:UInt32):aF (u32 x)=[]:=rfl
@[simp] theorem ma(x:UInt64):aF (u64 x)=[]:=rfl
@[simp] theorem lZ(x:Int):aF (i64 x)=[]:=rfl
@[simp] theorem oE(x:Bool):aF (bo x)=[]:=rfl
@[simp] theorem oB(x:List UInt8):aF (st x)=[]:=rfl
@[simp] theorem j8(x:UInt8):ao (u8 x)=false:=rfl
@[simp] theorem ik(x:UInt32):ao (u32 x)=false:=rfl
@[simp] theorem jl(x:UInt64):ao (u64 x)=false:=rfl
@[simp] theorem jk(x:Int):ao (i64 x)=false:=rfl
@[simp] theorem jw(x:Bool):ao (bo x)=false:=rfl
@[simp] theorem jz(x:List UInt8):ao (st x)=false:=rfl
@[simp] theorem kE(x:UInt8):aA (u8 x)=[u8 x]:=rfl
@[simp] theorem z4U(x:UInt32):aA (u32 x)=[u32 x]:=rfl
@[simp] theorem ib(x:UInt64):aA (u64 x)=[u64 x]:=rfl
@[simp] theorem iX(x:Int):aA (i64 x)=[i64 x]:=rfl
@[simp] theorem kA(x:Bool):aA (bo x)=[bo x]:=rfl
@[simp] theorem jY(x:List UInt8):aA (st x)=[st x]:=rfl
@[simp] theorem na(l:List UInt8):bc (st l)=l.length:=by simp[bc,st,ByteArray.size]
@[simp] theorem kh(bx:List oH)(l:List UInt8):az bx (st l)=bys l:=by simp[az,st,bys,u8]
end looks
section arith
@[simp] theorem gl(x y:Int):aE .add (i64 x) (i64 y)=i64 (W (x+y)):=rfl
@[simp] theorem gJ(x y:Int):aE .sub (i64 x) (i64 y)=i64 (W (x-y)):=rfl
@[simp] theorem gE(x y:Int):aE .mul (i64 x) (i64 y)=i64 (W (x*y)):=rfl
@[simp] theorem z0v(x y:Int):aE .quo (i64 x) (i64 y)=i64 (W (x.tdiv y)):=rfl
@[simp] theorem gw(x y:Int):aE .rem (i64 x) (i64 y)=i64 (x.tmod y):=rfl
@[simp] theorem gm(x y:Int):aE .eql (i64 x) (i64 y)=bo (x==y):=rfl
@[simp] theorem fZ(x y:Int):aE .neq (i64 x) (i64 y)=bo (x !=y):=rfl
@[simp] theorem ga(x y:Int):aE .lss (i64 x) (i64 y)=bo (decide (x<y)):=rfl
@[simp] theorem gN(x y:Int):aE .leq (i64 x) (i64 y)=bo (decide (x<=y)):=rfl
@[simp] theorem z1J(x y:Int):aE .gtr (i64 x) (i64 y)=bo (decide (y<x)):=rfl
@[simp] theorem z8y(x y:Int):aE .geq (i64 x) (i64 y)=bo (decide (y<=x)):=rfl
theorem aJ{n:Int}{x:UInt32}(h:n=x.toNat):oH.lit (.int .u32 n)=u32 x:=by rw[h];rfl
theorem be{n:Int}{x:UInt8}(h:n=x.toNat):oH.lit (.int .u8 n)=u8 x:=by rw[h];rfl
theorem wJ{n:Int}{x:UInt64}(h:n=x.toNat):oH.lit (.int .u64 n)=u64 x:=by rw[h];rfl
theorem Mt(k n:Nat):(BitVec.ofInt k (n:Int)).toNat=n% 2^k:=by simp[BitVec.toNat_ofInt]
theorem bC(x:UInt32):BitVec.ofInt 32 (x.toNat:Int)=x.toBitVec:=by apply BitVec.eq_of_toNat_eq;rw[Mt];exact Nat.mod_eq_of_lt x.toNat_lt
theorem z2h(x:UInt8):BitVec.ofInt 8 (x.toNat:Int)=x.toBitVec:=by apply BitVec.eq_of_toNat_eq;rw[Mt];exact Nat.mod_eq_of_lt x.toNat_lt
theorem cm(x:UInt64):BitVec.ofInt 64 (x.toNat:Int)=x.toBitVec:=by apply BitVec.eq_of_toNat_eq;rw[Mt];exact Nat.mod_eq_of_lt x.toNat_lt
theorem Gx(x:BitVec 32):IntKind.u32.wrap (x.toNat:Int)=(x.toNat:Int):=by rw[GI,Nat.mod_eq_of_lt x.isLt]
theorem cS(x:BitVec 8):IntKind.u8.wrap (x.toNat:Int)=(x.toNat:Int):=by rw[bA,Nat.mod_eq_of_lt x.isLt]
theorem bL(x:BitVec 64):IntKind.u64.wrap (x.toNat:Int)=(x.toNat:Int):=by rw[aY,Nat.mod_eq_of_lt x.isLt]
@[simp] theorem gD(x y:UInt32):aE .add (u32 x) (u32 y)=u32 (x+y):=aJ (by
 show IntKind.u32.wrap ((x.toNat:Int)+y.toNat)=_;rw[<-Int.natCast_add,GI,UInt32.toNat_add])
@[simp] theorem z4T(x y:UInt8):aE .add (u8 x) (u8 y)=u8 (x+y):=be (by
 show IntKind.u8.wrap ((x.toNat:Int)+y.toNat)=_;rw[<-Int.natCast_add,bA,UInt8.toNat_add])
@[simp] theorem z7M(x y:UInt64):aE .add (u64 x) (u64 y)=u64 (x+y):=wJ (by
 show IntKind.u64.wrap ((x.toNat:Int)+y.toNat)=_;rw[<-Int.natCast_add,aY,UInt64.toNat_add])
@[simp] theorem gc(x y:UInt64):aE .mul (u64 x) (u64 y)=u64 (x*y):=wJ (by
 show IntKind.u64.wrap ((x.toNat:Int)*y.toNat)=_;rw[<-Int.natCast_mul,aY,UInt64.toNat_mul])
@[simp] theorem z7C(x y:UInt32):aE .and (u32 x) (u32 y)=u32 (x&&&y):=aJ (by
 show IntKind.u32.wrap ((BitVec.ofInt 32 x.toNat&&&BitVec.ofInt 32 y.toNat).toNat:Int)=_;rw[bC,bC,Gx];rfl)
@[simp] theorem iY(x y:UInt32):aE .or (u32 x) (u32 y)=u32 (x|||y):=aJ (by
 show IntKind.u32.wrap ((BitVec.ofInt 32 x.toNat|||BitVec.ofInt 32 y.toNat).toNat:Int)=_;rw[bC,bC,Gx];rfl)
@[simp] theorem gU(x y:UInt32):aE .xor (u32 x) (u32 y)=u32 (x^^^y):=aJ (by
 show IntKind.u32.wrap ((BitVec.ofInt 32 x.toNat^^^BitVec.ofInt 32 y.toNat).toNat:Int)=_;rw[bC,bC,Gx];rfl)
@[simp] theorem jM(x y:UInt8):aE .or (u8 x) (u8 y)=u8 (x|||y):=be (by
 show IntKind.u8.wrap ((BitVec.ofInt 8 x.toNat|||BitVec.ofInt 8 y.toNat).toNat:Int)=_;rw[z2h,z2h,cS];rfl)
@[simp] theorem iu(x y:UInt8):aE .xor (u8 x) (u8 y)=u8 (x^^^y):=be (by
 show IntKind.u8.wrap ((BitVec.ofInt 8 x.toNat^^^BitVec.ofInt 8 y.toNat).toNat:Int)=_;rw[z2h,z2h,cS];rfl)
@[simp] theorem z7T(x y:UInt64):aE .or (u64 x) (u64 y)=u64 (x|||y):=wJ (by
 show IntKind.u64.wrap ((BitVec.ofInt 64 x.toNat|||BitVec.ofInt 64 y.toNat).toNat:Int)=_;rw[cm,cm,bL];rfl)
@[simp] theorem iU(x y:UInt8):aE .eql (u8 x) (u8 y)=bo (x==y):=by show oH.lit (.bool ((x.toNat:Int)==y.toNat))= .lit (.bool _);congr 2;rw[Bool.eq_iff_iff];simp only[beq_iff_eq,bne_iff_ne,ne_eq,<-UInt8.toNat_inj];omega
@[simp] theorem im(x y:UInt8):aE .neq (u8 x) (u8 y)=bo (x !=y):=by show oH.lit (.bool ((x.toNat:Int) !=y.toNat))= .lit (.bool _);congr 2;rw[Bool.eq_iff_iff];simp only[beq_iff_eq,bne_iff_ne,ne_eq,<-UInt8.toNat_inj];omega
@[simp] theorem fU(x y:UInt64):aE .eql (u64 x) (u64 y)=bo (x==y):=by show oH.lit (.bool ((x.toNat:Int)==y.toNat))= .lit (.bool _);congr 2;rw[Bool.eq_iff_iff];simp only[beq_iff_eq,bne_iff_ne,ne_eq,<-UInt64.toNat_inj];omega
@[simp] theorem gV(x y:UInt64):aE .gtr (u64 x) (u64 y)=bo (decide (y<x)):=by show oH.lit (.bool (decide ((x.toNat:Int)>y.toNat)))= .lit (.bool _);congr 2;simp[UInt64.lt_iff_toNat_lt]
@[simp] theorem z2w(x y:UInt64):aE .lss (u64 x) (u64 y)=bo (decide (x<y)):=by show oH.lit (.bool (decide ((x.toNat:Int)<y.toNat)))= .lit (.bool _);congr 2;simp[UInt64.lt_iff_toNat_lt]
@[simp] theorem z3N(x y:UInt64):aE .rem (u64 x) (u64 y)=u64 (x% y):=wJ (by
 show((x.toNat:Int).tmod y.toNat)=_;rw[UInt64.toNat_mod];rfl)
@[simp] theorem iA(x:UInt32):unV .xor (u32 x)=u32 (~~~x):=aJ (by
 show IntKind.u32.wrap ((BitVec.ofInt 32 4294967295^^^BitVec.ofInt 32 x.toNat).toNat:Int)=_;rw[bC,Gx];have e:(BitVec.ofInt 32 4294967295)=BitVec.allOnes 32:=by decide
 rw[e,BitVec.allOnes_xor];rfl)
@[simp] theorem iT(x:UInt64):unV .xor (u64 x)=u64 (~~~x):=wJ (by
 show IntKind.u64.wrap ((BitVec.ofInt 64 18446744073709551615^^^BitVec.ofInt 64 x.toNat).toNat:Int)=_;rw[cm,bL];have e:(BitVec.ofInt 64 18446744073709551615)=BitVec.allOnes 64:=by decide
 rw[e,BitVec.allOnes_xor];rfl)
@[simp] theorem un_not(x:Bool):unV .not (bo x)=bo (!x):=rfl
@[simp] theorem iD(x:Int):unV .neg (i64 x)=i64 (W (-x)):=by show oH.lit (.int .i64 (IntKind.i64.wrap (0-x)))=_;rw[Int.zero_sub];rfl
end arith
def Mn(x:UInt32)(n:Nat):UInt32:=⟨x.toBitVec>>>n⟩
def eD(x:UInt32)(n:Nat):UInt32:=⟨x.toBitVec<<<n⟩
def ct(x:UInt64)(n:Nat):UInt64:=⟨x.toBitVec>>>n⟩
def jR(x:UInt64)(n:Nat):UInt64:=⟨x.toBitVec<<<n⟩
theorem cf(b n:Nat)(x:BitVec b):((x.toNat:Int).fdiv (2^min n b))=((x>>>n).toNat:Int):=by
 have h2:((2:Int)^min n b)=((2^min n b:Nat):Int):=by simp
 rw[h2,BitVec.toNat_ushiftRight,Nat.shiftRight_eq_div_pow];have:((x.toNat:Int).fdiv ((2^min n b:Nat):Int))=((x.toNat/2^min n b:Nat):Int):=by rw[Int.fdiv_eq_ediv_of_nonneg _ (Int.natCast_nonneg _)];rfl
 rw[this];rcases Nat.le_total n b with h|h
 ·rw[Nat.min_eq_left h]
 rw[Nat.min_eq_right h,Nat.div_eq_of_lt x.isLt,Nat.div_eq_of_lt];exact Nat.lt_of_lt_of_le x.isLt (Nat.pow_le_pow_right (by decide) h)
theorem LB(b n:Nat)(x:BitVec b):(x.toNat*2^min n b)% 2^b=(x<<<n).toNat:=by
 rw[BitVec.toNat_shiftLeft,Nat.shiftLeft_eq];rcases Nat.le_total n b with h|h
 ·rw[Nat.min_eq_left h]
 rw[Nat.min_eq_right h,Nat.mul_mod_left];obtain⟨k,rfl⟩:=Nat.exists_eq_add_of_le h;rw[Nat.pow_add,<-Nat.mul_assoc,Nat.mul_right_comm,Nat.mul_mod_left]
theorem bw(x n b:Nat):((x:Int)*2^min n b)=((x*2^min n b:Nat):Int):=by simp
@[simp] theorem gn(x:UInt32)(n:Int):aE .shr (u32 x) (i64 n)=u32 (Mn x n.toNat):=aJ (cf 32 n.toNat x.toBitVec)
@[simp] theorem fQ(x:UInt32)(n:UInt64):aE .shr (u32 x) (u64 n)=u32 (Mn x n.toNat):=aJ (cf 32 n.toNat x.toBitVec)
@[simp] theorem z8F(x:UInt64)(n:Int):aE .shr (u64 x) (i64 n)=u64 (ct x n.toNat):=wJ (cf 64 n.toNat x.toBitVec)
@[simp] theorem fA(x:UInt64)(n:UInt64):aE .shr (u64 x) (u64 n)=u64 (ct x n.toNat):=wJ (cf 64 n.toNat x.toBitVec)
@[simp] theorem z1E(x:UInt32)(n:Int):aE .shl (u32 x) (i64 n)=u32 (eD x n.toNat):=aJ (by
 show IntKind.u32.wrap ((x.toNat:Int)*2^min n.toNat 32)=_;rw[bw,GI];exact congrArg _ (LB 32 n.toNat x.toBitVec))
@[simp] theorem fK(x:UInt32)(n:UInt64):aE .shl (u32 x) (u64 n)=u32 (eD x n.toNat):=aJ (by
 show IntKind.u32.wrap ((x.toNat:Int)*2^min n.toNat 32)=_;rw[bw,GI];exact congrArg _ (LB 32 n.toNat x.toBitVec))
@[simp] theorem g9(x:UInt64)(n:Int):aE .shl (u64 x) (i64 n)=u64 (jR x n.toNat):=wJ (by
 show IntKind.u64.wrap ((x.toNat:Int)*2^min n.toNat 64)=_;rw[bw,aY];exact congrArg _ (LB 64 n.toNat x.toBitVec))
@[simp] theorem fH(x:UInt64)(n:UInt64):aE .shl (u64 x) (u64 n)=u64 (jR x n.toNat):=wJ (by
 show IntKind.u64.wrap ((x.toNat:Int)*2^min n.toNat 64)=_;rw[bw,aY];exact congrArg _ (LB 64 n.toNat x.toBitVec))
@[simp] theorem z5H(x y:UInt64):aE .sub (u64 x) (u64 y)=u64 (x-y):=wJ (by
 show IntKind.u64.wrap ((x.toNat:Int)-y.toNat)=_;rw[UInt64.toNat_sub];have:=x.toNat_lt;have:=y.toNat_lt;unfold IntKind.wrap IntKind.bits IntKind.signed;simp only[Bool.false_and,Bool.false_eq_true,if_false];omega)
@[simp] theorem gW(x y:UInt64):aE .and (u64 x) (u64 y)=u64 (x&&&y):=wJ (by
 show IntKind.u64.wrap ((BitVec.ofInt 64 x.toNat&&&BitVec.ofInt 64 y.toNat).toNat:Int)=_;rw[cm,cm,bL];rfl)
@[simp] theorem kj(x:UInt32):cvV .u8 (u32 x)=u8 x.toUInt8:=be (by
 show IntKind.u8.wrap (x.toNat:Int)=_;rw[bA,UInt32.toNat_toUInt8])
@[simp] theorem jK(x:UInt64):cvV .u8 (u64 x)=u8 x.toUInt8:=be (by
 show IntKind.u8.wrap (x.toNat:Int)=_;rw[bA,UInt64.toNat_toUInt8])
@[simp] theorem jG(x:UInt8):cvV .u32 (u8 x)=u32 x.toUInt32:=aJ (by
 show IntKind.u32.wrap (x.toNat:Int)=_;rw[GI,UInt8.toNat_toUInt32,Nat.mod_eq_of_lt (by have:=x.toNat_lt;omega)])
@[simp] theorem jL(x:UInt8):cvV .u64 (u8 x)=u64 x.toUInt64:=wJ (by
 show IntKind.u64.wrap (x.toNat:Int)=_;rw[aY,UInt8.toNat_toUInt64,Nat.mod_eq_of_lt (by have:=x.toNat_lt;omega)])
theorem bj(n:Int)(m:Nat)(hm:0<m):(((n% (m:Int)).toNat:Nat):Int)=n% (m:Int):=Int.toNat_of_nonneg (Int.emod_nonneg _ (by omega))
theorem dv(n:Int):(UInt8.ofInt n).toNat=(n% 256).toNat:=by unfold UInt8.ofInt;rw[UInt8.toNat_ofNat',Nat.mod_eq_of_lt (by omega)];rfl
theorem dw(n:Int):(UInt32.ofInt n).toNat=(n% 4294967296).toNat:=by unfold UInt32.ofInt;rw[UInt32.toNat_ofNat',Nat.mod_eq_of_lt (by omega)];rfl
theorem cd(n:Int):(UInt64.ofInt n).toNat=(n% 18446744073709551616).toNat:=by unfold UInt64.ofInt;rw[UInt64.toNat_ofNat',Nat.mod_eq_of_lt (by omega)];rfl
@[simp] theorem jF(n:Int):cvV .u8 (i64 n)=u8 (UInt8.ofInt n):=be (by
 show IntKind.u8.wrap n=_;rw[show(UInt8.ofInt n).toNat=(n% 256).toNat from dv n];exact(bj n 256 (by decide)).symm)
@[simp] theorem iz(n:Int):cvV .u64 (i64 n)=u64 (UInt64.ofInt n):=wJ (by
 show IntKind.u64.wrap n=_;rw[show(UInt64.ofInt n).toNat=(n% 18446744073709551616).toNat from cd n];exact(bj n 18446744073709551616 (by decide)).symm)
@[simp] theorem iQ(n:Int):cvV .u32 (i64 n)=u32 (UInt32.ofInt n):=aJ (by
 show IntKind.u32.wrap n=_;rw[show(UInt32.ofInt n).toNat=(n% 4294967296).toNat from dw n];exact(bj n 4294967296 (by decide)).symm)
@[simp] theorem jE(x:UInt8):cvV .i64 (u8 x)=i64 x.toNat:=by show oH.lit (.int .i64 (W x.toNat))=_;rw[fJ (by omega) (by have:=x.toNat_lt;omega)];rfl
@[simp] theorem i7(x:UInt32):cvV .i64 (u32 x)=i64 x.toNat:=by show oH.lit (.int .i64 (W x.toNat))=_;rw[fJ (by omega) (by have:=x.toNat_lt;omega)];rfl
@[simp] theorem z5T(x:UInt64):cvV .i64 (u64 x)=i64 (W x.toNat):=rfl
@[simp] theorem z0R(x:Int):cvV .i64 (i64 x)=i64 (W x):=rfl
end Go.Abs