/- Lemmas. -/
import Derived.Test.YtiehmnjjlbndlaaGreatDoorD
set_option linter.all false
namespace Go.Abs
inductive tJ where
 |keep (slots:List Nat)
 |drop (ids:List Nat)
 |freeze (ids:List Nat)
 |norm (ids:List Nat)
 |thaw (s id:Nat)
 |thawB (b i id:Nat)
 |unorg (s:Nat)
 |hideB (b i:Nat)
 |reB (b i:Nat) (o:Option Nat)
 deriving Inhabited
mutual
def frm:oH->Bool
 | .lit _=>true
 | .undef=>true
 | .bp _ _=>true
 | .bv _ _ _ _ _=>true
 | .agg cs=>jm cs
 | .tup cs=>jm cs
 | .fn _ x y=>jm x&&jm y
 | .sl _ _ _ cs=>cs.isEmpty
 | .ep cs=>cs.isEmpty
 | .otup _ _ _ _ _=>false
 | .mp _=>false
 | .pv _ _ _ _=>false
 | .oagg _ _=>false
def jm:List oH->Bool
 |[]=>true
 |c::cs=>frm c&&jm cs
end
def fy:oH->Bool
 | .sl (.own _) _ _ cs=>aj cs
 |v=>frm v
mutual
def eE(ids:List Nat)(bx:Nat->List oH):oH->oH
 | .bp id off=>if id∈ids then .ep ((bx id).drop off) else .bp id off
 | .bv id e off n c=>if id∈ids then .sl .plain (some false) n (((bx id).drop off).take (n*e)) else .bv id e off n c
 | .agg cs=> .agg (bQ ids bx cs)
 | .tup cs=> .tup (bQ ids bx cs)
 | .fn f x y=> .fn f (bQ ids bx x) (bQ ids bx y)
 | .otup _ _ _ _ _=> .undef
 | .mp _=> .undef
 | .pv _ _ _ _=> .undef
 | .oagg _ _=> .undef
 |v=>v
def bQ(ids:List Nat)(bx:Nat->List oH):List oH->List oH
 |[]=>[]
 |c::cs=>eE ids bx c::bQ ids bx cs
end
inductive av where
 |skip
 |region (keep:List Nat) (gs:List tJ) (xs:List af)
 |seq (a b:av)
 |cond (c:Arg) (a b:av)
 |block (id:Nat) (b:av)
 |loop (b:av)
 |scope (b:av)
 |exit (id:Nat)
 |ret
 |ghost (g:tJ) (c:av)
 |range (f:Nat) (t:Arg) (ks ps:List Nat) (assign body:av)
 |bad
 |alt (a b:av)
 |nm (s:Nat) (c:av)
 deriving Inhabited
inductive aB where
 |normal
 |exit (id:Nat)
 |ret
def cB(keep:List Nat)(st:ASt):ASt:={st with env:=keep.map λs=>(s,st.get s)}
def DZ(o:Option Nat)(c:oH):oH:=match o with
 |none=>dem c
 |some e=>match c with| .sl .plain (some true) 0 []=> .sl (.own e) none 0 []|c=>c
def oS:tJ->ASt->ASt
 | .keep l,st=>cB l st
 | .drop ids,st=>{st with box:=st.box.filter λp=> !ids.contains p.1}
 | .freeze ids,st=>
  let bx:=λid=>(st.getB id).getD []
  {st with env:=st.env.map λp=>(p.1,eE ids bx p.2),box:=(st.box.filter λp=> !ids.contains p.1).map λp=>(p.1,p.2.map (bQ ids bx))}
 | .norm ids,st=>{st with box:=ids.map λid=>(id,st.getB id)}
 | .thaw s id,st=>match st.get s with| .sl (.own e) _ n cs=>{st with env:=(s,.bv id e 0 n n)::st.env,box:=(id,some cs)::st.box}|_=>st
 | .thawB b i id,st=>match st.getB b with|some bs=>(match bs.getD i .undef with| .sl (.own e) _ n cs=>{st with box:=(b,some (bs.set i (.bv id e 0 n n)))::(id,some cs)::st.box}|_=>st)|none=>st
 | .unorg s,st=>{st with org:=st.org.filter λp=>decide (p.1≠s),env:=(s,st.get s)::st.env}
 | .hideB b i,st=>match st.getB b with|some bs=>{st with box:=(b,some (bs.set i .undef))::st.box}|none=>st
 | .reB b i o,st=>match st.getB b with|some bs=>{st with box:=(b,some (bs.set i (DZ o (bs.getD i .undef))))::st.box}|none=>st
def bK:tJ->ASt->Prop
 | .keep _,_=>True
 | .drop ids,st=>(∀p∈st.env,∀id∈aF p.2,id∉ids)∧(∀p∈st.box,p.1∈ids∨∀cs,p.2=some cs->∀id∈pT cs,id∉ids)
 | .freeze ids,st=>∀id∈ids,∃cs,st.getB id=some cs∧au cs=true
 | .norm ids,st=>∀p∈st.box,p.1∈ids
 | .thaw s id,st=>id<400000∧st.getB id=none∧(match lk st.env s with|some (.sl (.own _) _ n cs)=>0<n∧aj cs=true|_=>False)∧
  (∀p∈st.env,p.1=s∨fy p.2=true)∧(∀p∈st.box,∀cs,p.2=some cs->∀c∈cs,fy c=true)
 | .thawB _ _ _,_=>False
 | .unorg _,_=>True
 | .hideB b _,_=>b<1000000
 | .reB b _ _,_=>b<1000000
def tJ.cold:tJ->Bool| .thaw _ _=>false| .thawB _ _ _=>false|_=>true
def z6ia(b:Option Nat)(i id:Nat)(st:ASt):Prop:=match b with
 |none=>cx id∧st.getB id=none∧(match lk st.env i with|some (.sl (.own _) _ n cs)=>0<n∧aj cs=true|_=>False)∧
  (∀p∈st.env,p.1=i∨fy p.2=true)∧(∀p∈st.box,∀cs,p.2=some cs->∀c∈cs,fy c=true)
 |some b=>cx id∧b<1000000∧st.getB id=none∧(match st.getB b with|some bs=>i<bs.length∧(match bs.getD i .undef with| .sl (.own _) _ n cs=>0<n∧aj cs=true|_=>False)|none=>False)∧
  (∀p∈st.env,fy p.2=true)∧(∀p∈st.box,∀cs,p.2=some cs->p.1=b∨∀c∈cs,fy c=true)∧(∀bs,st.getB b=some bs->∀c∈bs.set i .undef,fy c=true)
def z0ua:Value->Option Nat
 | .slice (some a) _ _=>some a.block
 | .pointer (some a)=>some a.block
 |_=>none
def cZ:List tJ->ASt->ASt
 |[],st=>st
 |g::gs,st=>cZ gs (oS g st)
def iG:List tJ->ASt->Prop
 |[],_=>True
 |g::gs,st=>bK g st∧iG gs (oS g st)
def cc(f:ASt->Prop)(Q:aB->ASt->Prop):aB->ASt->Prop
 | .normal,st=>f st
 |e,st=>Q e st
def dL(id:Nat)(Q:aB->ASt->Prop):aB->ASt->Prop
 | .exit id',st=>if id'=id then Q .normal st else Q (.exit id') st
 |e,st=>Q e st
def dz(st:ASt)(ks:List Nat):List (Nat×oH):=ks.map λs=>(s,dem (st.get s))
def oo(st:ASt)(ks ps:List Nat)(V:Nat->Value)(xs:List oH)(bx:List (Nat×Option (List oH))):ASt:=
 {org:=(ks.map λs=>(s,oH.lit (V s)))++st.org,env:=ps.zip xs++dz st ks,box:=bx}
def fk(st:ASt)(ks:List Nat)(V:Nat->Value)(st':ASt):Prop:=∀s∈ks,st'.get s=dem (st.get s)∧lk st'.org s=some (.lit (V s))
def Tp(st:ASt)(ks:List Nat)(V:Nat->Value)(J:List (Nat×Option (List oH))->Prop)(Q:aB->ASt->Prop):aB->ASt->Prop
 | .normal,st'=>fk st ks V st'∧J st'.box
 |e,st'=>fk st ks V st'∧Q e {org:=st.org,env:=dz st ks,box:=st'.box}
def epY(getB:Nat->Option (List oH))(lv:List Nat)(y:List oH):List oH:=y.zipIdx.map λq=>if q.2∈lv then(match q.1 with| .bp id 0=> .ep ((getB id).getD [])|d=>d) else q.1
@[simp] theorem nD(getB:Nat->Option (List oH))(y:List oH):epY getB [] y=y:=by simp[epY]
theorem z2l(getB:Nat->Option (List oH))(lv:List Nat)(y:List oH)(i:Nat):(epY getB lv y)[i]? =(y[i]?).map λd=>if i∈lv then(match d with| .bp id 0=> .ep ((getB id).getD [])|d=>d) else d:=by rw[epY,List.getElem?_map,List.getElem?_zipIdx];cases y[i]? <;>simp
def bI(lv:List Nat)(y:List oH):List Nat:=lv.filterMap λi:Nat=>match(y[i]? :Option oH) with|some (.bp id 0)=>some id|_=>none
@[simp] theorem jB(y:List oH):bI [] y=[]:=rfl
def rmB(ids:List Nat)(bx:List (Nat×Option (List oH))):List (Nat×Option (List oH)):=bx.filter λp=> !ids.contains p.1
@[simp] theorem oD(bx:List (Nat×Option (List oH))):rmB [] bx=bx:=by simp[rmB]
def dc(ids:List Nat)(st:ASt):ASt:={st with env:=st.env.map λp=>(p.1,if(aF p.2).any (ids.contains ·) then .undef else p.2)}
@[simp] theorem jO(st:ASt):dc [] st=st:=by simp[dc]
def bkB(ids:List Nat)(bx:List (Nat×Option (List oH))):List (Nat×Option (List oH)):=ids.map (λid=>(id,some []))++bx
@[simp] theorem oC(bx:List (Nat×Option (List oH))):bkB [] bx=bx:=rfl
def kV(st:ASt)(ks ids:List Nat)(Q:aB->ASt->Prop)(e:aB)(bx:List (Nat×Option (List oH))):Prop:=
 (∀id∈ids,(lk bx id).join=none)∧Q e {org:=st.org,env:=dz st ks,box:=bkB ids bx}
theorem D6(st:ASt)(ks:List Nat)(Q:aB->ASt->Prop)(e:aB)(bx:List (Nat×Option (List oH))):kV st ks [] Q e bx↔Q e {org:=st.org,env:=dz st ks,box:=bx}:=by simp[kV]
def ZW(st:ASt)(ks lv:List Nat)(x y:List oH):Prop:=au (x++epY st.getB lv y)=true∧(∀i∈lv,∃id cs,y[i]? =some (.bp id 0)∧id<1000000∧st.getB id=some cs∧aj cs=true)∧(∀i∈lv,∀j∈lv,y[i]? =y[j]? ->i=j)∧
 (∀s∈ks,(∀id∈aF (st.get s),id∉bI lv y)∨((∀id∈aF (st.get s),id∈bI lv y)∧(dc (bI lv y) st).get s= .undef))∧(∀p∈st.box,p.1∈bI lv y∨∀cs,p.2=some cs->∀id∈pT cs,id∉bI lv y)
theorem Pb(st:ASt)(ks:List Nat)(x y:List oH):ZW st ks [] x y↔au (x++y)=true:=by simp[ZW]
def z5U(s:Nat)(q:Option Addr)(cap:Nat)(st:ASt):ASt:=match st.get s with| .pv _ e n cs=>{st with env:=(s,.pv (some (q,cap)) e n cs)::st.env}|_=>st
def awp(E:Env):av->(aB->ASt->Prop)->ASt->Prop
 | .skip,Q,st=>Q .normal st
 | .region keep gs xs,Q,st=>Aa E xs st∧iG gs (cB keep (C3 E xs st))∧Q .normal (cZ gs (cB keep (C3 E xs st)))
 | .seq a b,Q,st=>awp E a (cc (awp E b Q) Q) st
 | .cond c a b,Q,st=>isB (arg E st.get c)∧(asB (arg E st.get c)=true->awp E a Q st)∧(asB (arg E st.get c)=false->awp E b Q st)
 | .block id b,Q,st=>awp E b (dL id Q) st
 | .loop b,Q,st=>∃I:Nat->ASt->Prop,(∃m,I m st)∧∀m st,I m st->awp E b (cc (λst'=>∃m',m'<m∧I m' st') Q) st
 | .scope b,Q,st=>awp E b Q st
 | .exit id,Q,st=>Q (.exit id) st
 | .ret,Q,st=>Q .ret st
 | .ghost g c,Q,st=>bK g st∧awp E c Q (oS g st)
 | .range f t ks ps as bd,Q,st=>∃x y,arg E st.get t= .fn f x y∧ZW st ks (E.I f).lv x y∧(E.I f).pre x (epY st.getB (E.I f).lv y)∧(∀p∈ps,p∉ks∧lk st.org p=none)∧
   ∃(N:Nat) (I:Nat->List (Nat×Option (List oH))->Prop),I 0 (rmB (bI (E.I f).lv y) st.box)∧(∀i bx,I i bx->i<=N)∧
    (∀i bx,I i bx->(E.I f).el x (epY st.getB (E.I f).lv y) i=none->kV st ks (bI (E.I f).lv y) Q .normal bx)∧
    ∀i bx xs,I i bx->(E.I f).el x (epY st.getB (E.I f).lv y) i=some xs->xs.length=ps.length∧aj xs=true∧
     ∀V:Nat->Value,awp E as (cc (awp E bd (Tp (dc (bI (E.I f).lv y) st) ks V (I (i+1)) (λe s=>kV st ks (bI (E.I f).lv y) Q e s.box))) (λ_ _=>False)) (oo (dc (bI (E.I f).lv y) st) ks ps V xs bx)
 | .bad,_,_=>False
 | .alt a b,Q,st=>awp E a Q st∨awp E b Q st
 | .nm s c,Q,st=>∀q cap,(0<pvN (st.get s)->∃b,q=some ⟨b,0,none⟩)->awp E c Q (z5U s q cap st)
def pC(K:Cx)(n:Nat):av->Code->Bool
 | .ghost _ c,x=>pC K n c x
 | .skip,x=>match x with| .skip=>true| .label _=>true|_=>false
 | .region _ _ xs,x=>match x with| .region _ ops draw=>zV K n ops ops.toList xs&&(!draw||(Rv ops xs&&K.P.follows .mixedOrders))|_=>false
 | .seq a b,x=>match x with| .seq p q=>pC K n a p&&pC K n b q|_=>false
 | .cond c a b,x=>match x with| .cond c' p q=>rk K c' c&&pC K n a p&&pC K n b q|_=>false
 | .block id b,x=>match x with| .block id' p=>(id==id')&&pC K n b p|_=>false
 | .loop b,x=>match x with| .loop p=>pC K n b p|_=>false
 | .scope b,x=>match x with| .scope p=>pC K n b p|_=>false
 | .exit id,x=>match x with| .exit id'=>id==id'|_=>false
 | .ret,x=>match x with| .ret=>true|_=>false
 | .range _ t _ ps as bd,x=>match x with| .rangeFunc g qs p q=>rk K g t&&(qs.toList==ps)&&ps.all (· <n)&&decide ps.Nodup&&pC K n as p&&pC K n bd q|_=>false
 | .bad,_=>true
 | .alt a b,x=>pC K n a x&&pC K n b x
 | .nm _ c,x=>pC K n c x
def tF:av->Bool
 | .region _ gs _=>gs.all tJ.cold
 | .seq a b=>tF a&&tF b
 | .cond _ a b=>tF a&&tF b
 | .block _ b=>tF b
 | .loop b=>tF b
 | .scope b=>tF b
 | .ghost g c=>g.cold&&tF c
 | .alt a b=>tF a&&tF b
 | .nm _ c=>tF c
 | .range _ _ _ _ as bd=>tF as&&tF bd
 |_=>true
def sg:av->Bool
 | .seq a b=>sg a&&sg b
 | .cond _ a b=>sg a&&sg b
 | .block _ b=>sg b
 | .loop b=>sg b
 | .scope b=>sg b
 | .ghost _ c=>sg c
 | .alt a b=>sg a&&sg b
 | .nm _ c=>sg c
 | .range .. =>false
 |_=>true
def Ai:av->Bool
 | .seq a b=>Ai a&&Ai b
 | .cond _ a b=>Ai a&&Ai b
 | .block _ b=>Ai b
 | .loop b=>Ai b
 | .scope b=>Ai b
 | .ghost _ c=>Ai c
 | .alt a b=>Ai a&&Ai b
 | .nm _ c=>Ai c
 | .range _ _ _ _ as bd=>sg as&&sg bd
 |_=>true
def ae:av->List (Nat×Bool)
 | .region _ _ xs=>xs.flatMap λx=>eu x.op
 | .seq a b=>ae a++ae b
 | .cond _ a b=>ae a++ae b
 | .block _ b=>ae b
 | .loop b=>ae b
 | .scope b=>ae b
 | .ghost _ c=>ae c
 | .alt a b=>ae a++ae b
 | .nm _ c=>ae c
 | .range _ _ _ _ as bd=>ae as++ae bd
 |_=>[]
def yB:av->List Nat
 | .seq a b=>yB a++yB b
 | .cond _ a b=>yB a++yB b
 | .block _ b=>yB b
 | .loop b=>yB b
 | .scope b=>yB b
 | .ghost _ c=>yB c
 | .alt a b=>yB a++yB b
 | .nm _ c=>yB c
 | .range f _ _ _ as bd=>f::(yB as++yB bd)
 |_=>[]
section
variable {K : Cx} {base : aZ} {n : Nat} {st : ASt} {a : Act} {w : World}
theorem uU{g:Gh}{bx:Nat->Option (List oH)}(hI:Inv K base g w bx):aP base.S base.w0 g.S w:=λb i x hi hc=>by
 have hb:b<base.w0.heap.size:=World.block_lt_of_cell? base.w0 ⟨b,i,none⟩ hc;unfold aZ.S at hi;split at hi
 ·rename_i h;rw[hI.sS b h.1 h.2];refine⟨hi,?_⟩;rw[World.cell?_of_block (w:=base.w0) (a:=⟨b,i,none⟩) (hI.fr.block b h.1 h.2)];exact hc
 omega
theorem qo(f:Nat->oH)(s:Nat):∀l:List Nat,lk (l.map λs=>(s,f s)) s=if s∈l then some (f s) else none
 |[]=>by simp[lk]
 |t::l=>by
  simp only[List.map_cons,lk,List.mem_cons];by_cases h:s=t
  ·subst h;simp
  rw[if_neg h,qo f s l];simp only[h,false_or]
theorem Vu(keep:List Nat)(st:ASt)(s:Nat):(cB keep st).get s=if s∈keep then st.get s else dem ((lk st.org s).getD .undef):=by
 have:(cB keep st).get s=match lk (keep.map λs=>(s,st.get s)) s with|some d=>d|none=>dem ((lk st.org s).getD .undef):=rfl
 rw[this,qo];by_cases h:s∈keep
 ·rw[if_pos h,if_pos h]
 rw[if_neg h,if_neg h]
theorem vo(keep:List Nat)(hR:Rel K base n st a w):Rel K base n (cB keep st) a w:=by
 obtain⟨g,hI,hS,hO,h⟩:=hR;refine⟨g,hI,λs=> ?_,hO,h⟩;rw[Vu];split
 ·exact hS s
 cases hs:lk st.org s with
 |none=>simp[Abs.dem,Rep]
 |some d=>exact ap.dem _ (ap.mono (uU hI) d _ (hO s d hs))
theorem tz{α:Type}(p:Nat->Bool):∀(l:List (Nat×α)) (s:Nat),lk (l.filter λq=>p q.1) s=if p s then lk l s else none
 |[],s=>by simp[lk]
 |(k,x)::l,s=>by
  have ih:=tz p l s;by_cases hk:p k=true
  ·simp only[List.filter_cons,hk,if_true,lk,ih];by_cases h:s=k
   ·subst h;simp[hk]
   simp only[if_neg h]
  simp only[List.filter_cons,hk,Bool.false_eq_true,if_false,lk,ih];by_cases h:s=k
  ·subst h;simp[hk]
  simp only[if_neg h]
theorem Gi{α:Type}:∀{l:List (Nat×α)} {s:Nat} {x:α},lk l s=some x->(s,x)∈l
 |[],_,_,h=>by simp[lk] at h
 |(k,y)::l,s,x,h=>by
  simp only[lk] at h;split at h
  ·cases h;subst_vars;simp
  exact List.mem_cons_of_mem _ (Gi h)
theorem F7:∀{cs:List oH} {c:oH} {id:Nat},c∈cs->id∈aF c->id∈pT cs
 |[],_,_,h,_=>by cases h
 |d::ds,c,id,h,hi=>by
  simp only[pT,List.mem_append];rcases List.mem_cons.1 h with rfl|h
  ·exact .inl hi
  exact .inr (F7 h hi)
theorem z0n(s:Nat)(hR:Rel K base n st a w):∃q cap,(0<pvN (st.get s)->∃b,q=some ⟨b,0,none⟩)∧Rel K base n (z5U s q cap st) a w:=by
 obtain⟨g,hI,hS,hO,h⟩:=hR;unfold z5U;have hs:=hS s;split
 ·rename_i o e k cs es;rw[es] at hs;simp only[Rep] at hs;obtain⟨⟨q,cap,hv,hq⟩,hp⟩:=hs;refine⟨q,cap,λh0=> ?_,g,hI,λt=> ?_,hO,h⟩
  ·simp only[es,pvN] at h0;rcases hp _ rfl with⟨q',hv',rfl,_⟩|⟨b,cap',hv',_⟩
   ·omega
   rw[hv] at hv';cases hv';exact⟨b,rfl⟩
  simp only[ASt.get,lk];by_cases ht:t=s
  ·subst ht;simp only[if_true,Rep];exact⟨⟨q,cap,hv,λp hp=>by cases hp;rfl⟩,hp⟩
  rw[if_neg ht];exact hS t
 rename_i hne;refine⟨none,0,λh0=> ?_,g,hI,hS,hO,h⟩;unfold pvN at h0;split at h0
 ·rename_i e;exact absurd e (hne _ _ _ _)
 omega
theorem z5h(ids:List Nat)(hR:Rel K base n st a w)(hok:bK (.drop ids) st):Rel K base n (oS (.drop ids) st) a w:=by
 obtain⟨g,hI,hS,hO,h⟩:=hR;obtain⟨h1,h2⟩:=hok
 let g':Gh:={g with mu:=λid=>if id∈ids then none else g.mu id}
 have hgetB:∀id,(oS (.drop ids) st).getB id=if id∈ids then none else st.getB id:=λid=>by
  simp only[ASt.getB,oS];rw[tz (λk=> !ids.contains k)];by_cases hi:id∈ids
  ·simp[hi]
  simp[hi]
 have rep:∀{d:oH} {v:Value} {l:Option Loc},(∀id∈aF d,id∉ids)->Rep K.toCon g w l d v->Rep K.toCon g' w l d v:=λ{d v l} hd hr=>Rep.mono (g:=g) (g':=g') (aP.refl g.S w) d v l l (λid hid b hb=>by simp only[g',if_neg (hd id hid)];exact hb) (λm hm=>⟨m,hm,λb hb=>⟨hb,rfl,rfl⟩⟩) hr;refine⟨g',⟨hI.fr,hI.sS,λi j b hi hj=> ?_,λid cs hc=> ?_,λid hid=> ?_,λid b hb=> ?_,hI.owW,hI.glob,hI.kp,λid b cs ho hb hc hd=> ?_,λid b h1 h2 hb=>by
  simp only[g'] at hb;split at hb
  ·cases hb
  exact hI.old id b h1 h2 hb⟩,λs=> ?_,hO,h⟩
 ·simp only[g'] at hi hj;split at hi
  ·cases hi
  split at hj
  ·cases hj
  exact hI.inj i j b hi hj
 ·rw[hgetB] at hc;split at hc
  ·cases hc
  rename_i hni;obtain⟨b,k1,k2,k3⟩:=hI.bxok id cs hc;refine⟨b,by simp only[g',if_neg hni];exact k1,k2,λi d hi=> ?_⟩;obtain⟨⟨x,h4,h5⟩,h6⟩:=k3 i d hi;have hbox:∃c,lk st.box id=some (some c)∧c=cs:=by
   simp only[ASt.getB] at hc;cases hl:lk st.box id with
   |none=>rw[hl] at hc;cases hc
   |some o=>rw[hl] at hc;simp only[Option.join_some] at hc;exact⟨cs,by rw[hc],rfl⟩
  obtain⟨c,hl,rfl⟩:=hbox;have:=(h2 _ (Gi hl)).resolve_left hni c rfl;exact⟨⟨x,h4,rep (λid' hid'=>this id' (F7 (sj hi) hid')) h5⟩,h6⟩
 ·rw[hgetB] at hid;simp only[g'];split
  ·rfl
  rename_i hni;rw[if_neg hni] at hid;exact hI.nobx id hid
 ·simp only[g'] at hb;split at hb
  ·cases hb
  exact hI.muW id b hb
 ·simp only[g'] at hb;rw[hgetB] at hc;split at hc
  ·cases hc
  rename_i hni;rw[if_neg hni] at hb;exact dy.keep (hI.obok id b cs ho hb hc hd) rfl λk hk=>⟨hk,rfl⟩
 have hget:(oS (.drop ids) st).get s=st.get s:=rfl;rw[hget];unfold ASt.get;cases hl:lk st.env s with
 |some d=>have:=hS s;unfold ASt.get at this;rw[hl] at this;exact rep (h1 _ (Gi hl)) this
 |none=>
  cases hs:lk st.org s with
  |none=>simp[Abs.dem,Rep]
  |some d=>exact ap.dem (g:=g') _ (ap.mono (uU hI) d _ (hO s d hs))
section
variable {ids : List Nat} {g : Gh} {bx : Nat -> Option (List oH)}
theorem Ru(hI:Inv K base g w bx)(hbs:∀id∈ids,∃cs,bx id=some cs∧∀c∈cs,ak c=true){id b:Nat}(h1:id∈ids)(h3:g.mu id=some b):am K.toCon (Fo g bx ids) w ((bx id).getD []) b 0:=by have hk:=uI hI ids hbs;obtain⟨cs,h2,hp⟩:=hbs id h1;rw[h2];refine am.mk λi e he=> ?_;obtain⟨b',k1,k2,k3⟩:=hI.bxok id cs h2;rw[h3] at k1;cases k1;obtain⟨⟨x,hx,hr⟩,_⟩:=k3 i e he;rw[Nat.zero_add];refine⟨?_,x,hx,ap.mono hk e x (Rep.pure e x _ (hp e (sj he)) hr)⟩;rw[Nq hI h1 h3,h2];exact(List.getElem?_eq_some_iff.1 he).1
def frz(g:Gh)(bx:Nat->Option (List oH))(ids:List Nat):Gh->Prop:=λg'=>g'.S=Fo g bx ids∧g'.ow=g.ow∧g'.mu=λid=>if id∈ids then none else g.mu id
mutual
theorem Ms(hI:Inv K base g w bx)(hbs:∀id∈ids,∃cs,bx id=some cs∧∀c∈cs,ak c=true){g':Gh}(hg:frz g bx ids g'):
  ∀(d:oH) (v:Value) (l:Option Loc),Rep K.toCon g w l d v->Rep K.toCon g' w l (eE ids (λid=>(bx id).getD []) d) v
 | .undef,_,_,_=>by simp[eE,Rep]
 | .lit x,v,_,h=>by simpa[eE,Rep] using h
 | .agg cs,v,_,h=>by simp only[Rep,eE] at h⊢;obtain⟨a,rfl,h⟩:=h;exact⟨a,rfl,D7 hI hbs hg cs _ h⟩
 | .tup cs,v,_,h=>by simp only[Rep,eE] at h⊢;obtain⟨a,rfl,h⟩:=h;exact⟨a,rfl,D7 hI hbs hg cs _ h⟩
 | .otup _ _ _ _ _,v,_,_=>by simp[eE,Rep]
 | .mp _,v,_,_=>by simp[eE,Rep]
 | .pv _ _ _ _,v,_,_=>by simp[eE,Rep]
 | .oagg _ _,v,_,_=>by simp[eE,Rep]
 | .fn f x y,v,_,h=>by simp only[Rep,eE] at h⊢;obtain⟨a,c,rfl,h1,h2⟩:=h;exact⟨a,c,rfl,D7 hI hbs hg x _ h1,D7 hI hbs hg y _ h2⟩
 | .sl (.own esz) nl n cs,v,l,h=>by have hk:=uI hI ids hbs;simp only[eE];refine Rep.mono (g:=g) (by rw[hg.1];exact hk) _ v l l (by simp[aF]) (λm hm=>⟨m,hm,λb hb=>⟨by rw[hg.2.1];exact hb,?_,rfl⟩⟩) h;rw[hg.1];refine yD λid hid hmu=> ?_;have:=(hI.muW id b hmu).2.2;rw[hb] at this;cases this
 | .sl .plain nl n cs,v,_,h=>by simp only[Rep,eE] at h⊢;rw[hg.1];exact ap.mono (uI hI ids hbs) _ _ h
 | .sl .clip nl n cs,v,_,h=>by simp only[Rep,eE] at h⊢;rw[hg.1];exact ap.mono (uI hI ids hbs) _ _ h
 | .ep cs,v,_,h=>by simp only[Rep,eE] at h⊢;rw[hg.1];exact ap.mono (uI hI ids hbs) _ _ h
 | .bp id off,v,l,h=>by
  simp only[eE];split
  ·rename_i hid;simp only[Rep] at h;obtain⟨b,hb,rfl⟩:=h;simp only[Rep,ap];refine⟨b,off,rfl,?_⟩;have:=(Ru hI hbs hid hb).drop off;rw[Nat.zero_add] at this;rw[hg.1];exact this
  rename_i hid;simp only[Rep] at h⊢;obtain⟨b,hb,rfl⟩:=h;exact⟨b,by rw[hg.2.2];simp only[if_neg hid];exact hb,rfl⟩
 | .bv id e off n c,v,l,h=>by
  simp only[eE];split
  ·rename_i hid;simp only[Rep] at h;obtain⟨b,cap,o',hb,rfl,hcap,_,ho',_⟩:=h;simp only[Rep,ap];refine .inl ⟨b,o',cap,rfl,hcap,?_,by simp,by simp⟩;rw[hg.1];rcases ho' with rfl|⟨rfl,_⟩
   ·have:=((Ru hI hbs hid hb).drop o').take (n*e);rwa[Nat.zero_add] at this
   rw[Nat.zero_mul,List.take_zero];simp[am]
  rename_i hid;simp only[Rep] at h⊢;obtain⟨b,cap,o,hb,rfl,h1⟩:=h;exact⟨b,cap,o,by rw[hg.2.2];simp only[if_neg hid];exact hb,rfl,h1⟩
theorem D7(hI:Inv K base g w bx)(hbs:∀id∈ids,∃cs,bx id=some cs∧∀c∈cs,ak c=true){g':Gh}(hg:frz g bx ids g'):
  ∀(ds:List oH) (vs:List Value),an K.toCon g w ds vs->an K.toCon g' w (bQ ids (λid=>(bx id).getD []) ds) vs
 |[],vs,h=>by simpa[an,bQ] using h
 |c::cs,vs,h=>by simp only[an,bQ] at h⊢;obtain⟨x,xs,rfl,h1,h2⟩:=h;exact⟨x,xs,rfl,Ms hI hbs hg c x none h1,D7 hI hbs hg cs xs h2⟩
end
end
theorem Lt{α β:Type}(f:α->β)(s:Nat):∀l:List (Nat×α),lk (l.map λp=>(p.1,f p.2)) s=(lk l s).map f
 |[]=>rfl
 |(k,x)::l=>by
  simp only[List.map_cons,lk];split
  ·rfl
  exact Lt f s l
theorem NI(ids:List Nat)(f:Nat->List oH):∀(l:List oH) (i:Nat),(bQ ids f l)[i]? =(l[i]?).map (eE ids f)
 |[],i=>by simp[bQ]
 |c::cs,i=>by
  simp only[bQ];cases i with
  |zero=>simp
  |succ i=>simp[NI ids f cs i]
theorem SP(ids:List Nat)(hR:Rel K base n st a w)(hok:bK (.freeze ids) st):Rel K base n (oS (.freeze ids) st) a w:=by
 obtain⟨g,hI,hS,hO,h⟩:=hR;have hbs:∀id∈ids,∃cs,st.getB id=some cs∧∀c∈cs,ak c=true:=λid hid=>by obtain⟨cs,h1,h2⟩:=hok id hid;exact⟨cs,h1,(bE cs).1 h2⟩
 have hk:=uI hI ids hbs
 let g':Gh:={S:=Fo g st.getB ids,ow:=g.ow,mu:=λid=>if id∈ids then none else g.mu id}
 have hg:frz g st.getB ids g':=⟨rfl,rfl,rfl⟩
 let f:Nat->List oH:=λid=>(st.getB id).getD []
 have hgetB:∀id,(oS (.freeze ids) st).getB id=if id∈ids then none else(st.getB id).map (bQ ids f):=λid=>by
  have hb:(oS (.freeze ids) st).box=(st.box.filter λp=> !ids.contains p.1).map λp=>(p.1,(λo:Option (List oH)=>o.map (bQ ids f)) p.2):=rfl;unfold ASt.getB;rw[hb,Lt (λo:Option (List oH)=>o.map (bQ ids f)),tz (λk=> !ids.contains k)];by_cases hi:id∈ids
  ·simp[hi]
  simp only[List.contains_eq_mem,hi,decide_false,Bool.not_false,if_true,if_false];cases hl:lk st.box id with
  |none=>simp
  |some o=>cases o<;>simp
 have hSother:∀b,(∀id∈ids,g.mu id≠some b)->g'.S b=g.S b:=λb hb=>yD λid h1 h2=>hb id h1 h2;refine⟨g',⟨hI.fr,λb hb hw=> ?_,λi j b hi hj=> ?_,λid cs hc=> ?_,λid hid=> ?_,λid b hb=> ?_,hI.owW,λm hm=>am.mono hk _ _ _ (hI.glob m hm),hI.kp.trans hk,λid b cs ho hb hc hd=> ?_,λid b h1 h2 hb=>by
  simp only[g'] at hb;split at hb
  ·cases hb
  exact hI.old id b h1 h2 hb⟩,λs=> ?_,hO,h⟩
 ·rw[hSother b λid _ hmu=> ?_]
  ·exact hI.sS b hb hw
  rcases(hI.muW id b hmu).1 with h1|h1
  ·omega
  exact hw h1
 ·simp only[g'] at hi hj;split at hi
  ·cases hi
  split at hj
  ·cases hj
  exact hI.inj i j b hi hj
 ·rw[hgetB] at hc;split at hc
  ·cases hc
  rename_i hni;cases ho:st.getB id with
  |none=>rw[ho] at hc;cases hc
  |some ds=>
   rw[ho] at hc;simp only[Option.map_some,Option.some.injEq] at hc;subst hc;obtain⟨b,k1,k2,k3⟩:=hI.bxok id ds ho;refine⟨b,by simp only[g',if_neg hni];exact k1,?_,λi d hi=> ?_⟩
   ·rw[hSother b λj hj hmu=>hni (by rw[hI.inj id j b k1 hmu];exact hj)];exact k2
   rw[NI] at hi;cases hd:ds[i]? with
   |none=>rw[hd] at hi;cases hi
   |some e=>rw[hd] at hi;simp only[Option.map_some,Option.some.injEq] at hi;subst hi;obtain⟨⟨x,h4,h5⟩,h6⟩:=k3 i e hd;exact⟨⟨x,h4,Ms hI hbs hg e x _ h5⟩,h6⟩
 ·rw[hgetB] at hid;simp only[g'];split
  ·rfl
  rename_i hni;rw[if_neg hni] at hid;refine hI.nobx id ?_;cases ho:st.getB id with
  |none=>rfl
  |some ds=>rw[ho] at hid;cases hid
 ·simp only[g'] at hb;split at hb
  ·cases hb
  exact hI.muW id b hb
 ·simp only[g'] at hb;rw[hgetB] at hc;split at hc
  ·cases hc
  rename_i hni;rw[if_neg hni] at hb;cases ho':st.getB id with
  |none=>rw[ho'] at hc;cases hc
  |some ds=>
   rw[ho'] at hc;simp only[Option.map_some,Option.some.injEq] at hc;subst hc;refine dy.keep (hI.obok id b ds ho hb ho' λhe=>hd ?_) rfl λk hk=>⟨hk,rfl⟩
   match ds,he with
   |[],_=>rfl
   |[_],_=>simp[bQ,hdA]
   |_::c::cs,he=>simp only[List.drop_succ_cons,List.drop_zero,hdA,List.headD_cons] at he;subst he;simp[bQ,hdA,eE]
 have hg0:=hS s;unfold ASt.get at hg0⊢;have:lk (oS (.freeze ids) st).env s=(lk st.env s).map (eE ids f):=Lt (eE ids f) s st.env;rw[this];cases hl:lk st.env s with
 |some d=>rw[hl] at hg0;exact Ms hI hbs hg d _ _ hg0
 |none=>
  have hg1:(oS (.freeze ids) st).org=st.org:=rfl;rw[hg1];cases hs:lk st.org s with
  |none=>simp[Abs.dem,Rep]
  |some d=>exact ap.dem (g:=g') _ (ap.mono hk d _ (ap.mono (uU hI) d _ (hO s d hs)))
def KU(K:Cx)(base:aZ):Prop:=(∀b,base.W b->base.S0 b=0)∧∀n∈K.N.gs,am K.toCon base.S0 base.w0 (K.E.T n) (K.N.gnum n) 0
mutual
theorem TS{g g':Gh}{w:World}(hm:∀id b,g.mu id=some b->g'.mu id=some b):∀(d:oH) (v:Value) (l l':Option Loc),frm d=true->Rep K.toCon g w l d v->(∀e nl n cs,d= .sl (.own e) nl n cs->l'=none)->Rep K.toCon g' w l' d v
 | .lit x,v,_,_,_,h,_=>by simpa[Rep] using h
 | .undef,_,_,_,_,_,_=>by simp[Rep]
 | .bp id off,v,_,_,_,h,_=>by simp only[Rep] at h⊢;obtain⟨b,hb,rfl⟩:=h;exact⟨b,hm _ _ hb,rfl⟩
 | .bv id e off n c,v,_,_,_,h,_=>by simp only[Rep] at h⊢;obtain⟨b,cap,o,hb,rfl,h1⟩:=h;exact⟨b,cap,o,hm _ _ hb,rfl,h1⟩
 | .agg cs,v,_,_,hf,h,_=>by simp only[Rep] at h⊢;obtain⟨a,rfl,h⟩:=h;exact⟨a,rfl,F8 hm cs _ (by simpa[frm] using hf) h⟩
 | .tup cs,v,_,_,hf,h,_=>by simp only[Rep] at h⊢;obtain⟨a,rfl,h⟩:=h;exact⟨a,rfl,F8 hm cs _ (by simpa[frm] using hf) h⟩
 | .fn f x y,v,_,_,hf,h,_=>by simp only[Rep] at h⊢;obtain⟨a,c,rfl,h1,h2⟩:=h;simp only[frm,Bool.and_eq_true] at hf;exact⟨a,c,rfl,F8 hm x _ hf.1 h1,F8 hm y _ hf.2 h2⟩
 | .sl m nl n cs,v,l,l',hf,h,hl=>by
  have e:cs=[]:=by simpa[frm] using hf
  subst e;have key:∀m',ap K.toCon g.S w (.sl m' nl n []) v->ap K.toCon g'.S w (.sl m' nl n []) v:=λm' hp=>by
   simp only[ap] at hp⊢;rcases hp with⟨b,o,cap,h1,h2,_,h4⟩|h5
   ·exact .inl ⟨b,o,cap,h1,h2,trivial,h4⟩
   exact .inr h5
  cases m with
  |own e=>simp only[Rep] at h⊢;refine⟨key _ h.1,λl'' hl''=> ?_⟩;rw[hl e nl n [] rfl] at hl'';cases hl''
  |plain=>simp only[Rep] at h⊢;exact key _ h
  |clip=>simp only[Rep] at h⊢;exact key _ h
 | .otup _ _ _ _ _,_,_,_,hf,_,_=>by simp[frm] at hf
 | .mp _,_,_,_,hf,_,_=>by simp[frm] at hf
 | .pv _ _ _ _,_,_,_,hf,_,_=>by simp[frm] at hf
 | .oagg _ _,_,_,_,hf,_,_=>by simp[frm] at hf
 | .ep cs,v,_,_,hf,h,_=>by
  have e:cs=[]:=by simpa[frm] using hf
  subst e;simp only[Rep,ap] at h⊢;obtain⟨b,o,h1,_⟩:=h;exact⟨b,o,h1,trivial⟩
theorem F8{g g':Gh}{w:World}(hm:∀id b,g.mu id=some b->g'.mu id=some b):∀(ds:List oH) (vs:List Value),jm ds=true->an K.toCon g w ds vs->an K.toCon g' w ds vs
 |[],_,_,h=>by simpa[an] using h
 |c::cs,l,hf,h=>by simp only[an] at h⊢;simp only[jm,Bool.and_eq_true] at hf;obtain⟨x,xs,rfl,h1,h2⟩:=h;exact⟨x,xs,rfl,TS hm c x none none hf.1 h1 (λ_ _ _ _ _=>rfl),F8 hm cs xs hf.2 h2⟩
end
mutual
theorem Ol:∀c:oH,aC c=true->ak c=true
 | .lit _,_=>rfl
 | .agg cs,h=>by simp only[aC,ak] at h⊢;exact Ha cs h
 | .tup cs,h=>by simp only[aC,ak] at h⊢;exact Ha cs h
 | .undef,h=>by simp[aC] at h
 | .sl _ _ _ _,h=>by simp[aC] at h
 | .bp _ _,h=>by simp[aC] at h
 | .bv _ _ _ _ _,h=>by simp[aC] at h
 | .ep _,h=>by simp[aC] at h
 | .otup _ _ _ _ _,h=>by simp[aC] at h
 | .mp _,h=>by simp[aC] at h
 | .pv _ _ _ _,h=>by simp[aC] at h
 | .oagg _ _,h=>by simp[aC] at h
 | .fn _ _ _,h=>by simp[aC] at h
theorem Ha:∀cs:List oH,aj cs=true->au cs=true
 |[],_=>rfl
 |c::cs,h=>by simp only[aj,au,Bool.and_eq_true] at h⊢;exact⟨Ol c h.1,Ha cs h.2⟩
end
theorem Rh:∀{cs:List oH} {c:oH},aj cs=true->c∈cs->aC c=true
 |[],_,_,h=>by cases h
 |d::cs,c,hf,h=>by
  simp only[aj,Bool.and_eq_true] at hf;rcases List.mem_cons.1 h with rfl|h
  ·exact hf.1
  exact Rh hf.2 h
theorem KW{S S':Nat->Nat}{w:World}:∀(cs:List oH) (b o:Nat),S' b=S b->aj cs=true->am K.toCon S w cs b o->am K.toCon S' w cs b o
 |[],_,_,_,_,_=>by simp[am]
 |c::cs,b,o,hS,hf,h=>by simp only[am] at h⊢;simp only[aj,Bool.and_eq_true] at hf;obtain⟨h0,⟨x,hx,h1⟩,h2⟩:=h;refine⟨by rw[hS];exact h0,⟨x,hx,?_⟩,KW cs b (o+1) hS hf.2 h2⟩;have r1:=ap.rep (g:={S:=S,ow:=λ_=>none,mu:=λ_=>none}) c x h1;have r2:=Dm (K:=K) (g':={S:=S',ow:=λ_=>none,mu:=λ_=>none}) (w':=w) c x none none hf.1 r1;exact Rep.pure (g:={S:=S',ow:=λ_=>none,mu:=λ_=>none}) c x none (Ol c hf.1) r2
theorem T0(s id:Nat)(hF:KU K base)(hR:Rel K base n st a w)(hok:z6ia none s id st):∃e nl k cs cap,st.get s= .sl (.own e) nl k cs∧k<=cap∧cs.length=k*e∧
  ∀(c:Nat) (xs:List oH),(xs=[]∧c=k∧id<500000)∨(c=cap∧xs=List.replicate ((cap-k)*e) .undef)->Rel K base n {st with env:=(s,.bv id e 0 k c)::st.env,box:=(id,some (cs++xs))::st.box} a w:=by
 obtain⟨g,hI,hS,hO,h⟩:=hR;obtain⟨hid,hgB,henv,hfe,hfb⟩:=hok;split at henv
 rotate_left
 ·exact henv.elim
 rename_i e nl k cs hl;obtain⟨hk0,hmf⟩:=henv;have hget:st.get s= .sl (.own e) nl k cs:=by unfold ASt.get;rw[hl]
 have hs:=hS s;rw[hget] at hs;simp only[Rep] at hs;obtain⟨hp,hown⟩:=hs;obtain⟨b,cap,hv,hle,hlen,hSb,how,hth⟩:cz g w (.slot s) e k cs.length (a.tmps.getD s undef):=by
  rcases hown _ rfl with(h1|⟨⟨p,h1⟩,_⟩)|h1
  ·rw[h1] at hp;simp only[ap] at hp;rcases hp with⟨b,o,cap,h2,_⟩|⟨_,_,h2,_⟩
   ·cases h2
   omega
  ·rw[h1] at hp;simp only[ap] at hp;rcases hp with⟨b,o,cap,h2,_⟩|⟨_,h2,_⟩
   ·simp only[Value.slice.injEq] at h2;omega
   simp only[Value.slice.injEq] at h2;omega
  exact h1
 obtain⟨hB,hbs⟩:=hI.owW b _ how;have hge:base.w0.heap.size<=b∨(base.W b∧base.S0 b=0):=hB.imp (λh=>h) λh=>⟨h,hF.1 b h⟩;have hmub:∀j,g.mu j≠some b:=λj hj=>by have:=(hI.muW j b hj).2.2;rw[how] at this;cases this
 have hmuid:g.mu id=none:=hI.nobx id hgB
 let g':Gh:={S:=λx=>if x=b then 0 else g.S x,ow:=λx=>if x=b then none else g.ow x,mu:=λi=>if i=id then some b else g.mu i}
 have hm:∀i x,g.mu i=some x->g'.mu i=some x:=λi x hx=>by
  have:i≠id:=λe=>by rw[e,hmuid] at hx;cases hx
  simp only[g',if_neg this];exact hx
 have hcells:am K.toCon g.S w cs b 0:=by
  rw[hv] at hp;simp only[ap] at hp;rcases hp with⟨b',o,cap',h2,_,h3,_⟩|⟨q,h2,_⟩
  ·simp only[Value.slice.injEq,Option.some.injEq,Addr.mk.injEq] at h2;obtain⟨⟨rfl,rfl,_⟩,_⟩:=h2;exact h3
  simp only[Value.slice.injEq] at h2;omega
 -- what is owned elsewhere
 have top:∀{d:oH} {v:Value} {l:Loc},l≠ .slot s->fy d=true->Rep K.toCon g w (some l) d v->Rep K.toCon g' w (some l) d v:=λ{d v l} hne hf hr=>by
  by_cases ho:∃e nl n cs,d= .sl (.own e) nl n cs
  ·obtain⟨e1,nl1,n1,cs1,rfl⟩:=ho;simp only[fy] at hf;simp only[Rep] at hr⊢;obtain⟨h1,h2⟩:=hr;rcases h2 l rfl with h3|⟨b2,cap2,h4,h5,h6,h7,h8,h9⟩
   ·refine⟨?_,λl' hl'=> .inl h3⟩;simp only[ap] at h1⊢;rcases h1 with⟨b3,o3,c3,q1,q2,q3,q4⟩|q
    ·rcases h3 with h3|⟨_,rfl⟩
     ·rw[h3] at q1;cases q1
     exact .inl ⟨b3,o3,c3,q1,q2,trivial,q4⟩
    exact .inr q
   have hb2:b2≠b:=λe=>by rw[e,how] at h8;cases h8;exact hne rfl
   refine⟨?_,λl' hl'=> .inr ⟨b2,cap2,h4,h5,h6,by simp only[g',if_neg hb2];exact h7,by cases hl';simp only[g',if_neg hb2];exact h8,h9⟩⟩;simp only[ap] at h1⊢;rcases h1 with⟨b3,o3,c3,q1,q2,q3,q4⟩|q
   ·refine .inl ⟨b3,o3,c3,q1,q2,?_,q4⟩;rw[h4] at q1;simp only[Value.slice.injEq,Option.some.injEq,Addr.mk.injEq] at q1;obtain⟨⟨rfl,_⟩,_⟩:=q1;exact KW cs1 _ _ (by simp only[g',if_neg hb2]) hf q3
   exact .inr q
  have hf':frm d=true:=by
   cases d with
   |sl m nl n cs=>cases m with
    |own e=>exact absurd ⟨e,nl,n,cs,rfl⟩ ho
    |plain=>exact hf
    |clip=>exact hf
   |_=>exact hf
  exact TS hm d v _ _ hf' hr λe nl n cs he=>absurd ⟨e,nl,n,cs,he⟩ ho
 have hkp:aP base.S0 base.w0 g'.S w:=λb' i x hi hc=>by
  have hlt:b'<base.w0.heap.size:=World.block_lt_of_cell? base.w0 ⟨b',i,none⟩ hc;have hne:b'≠b:=λe=>by subst e;rcases hge with h|⟨_,h⟩<;>omega
  obtain⟨k1,k2⟩:=hI.kp b' i x hi hc;exact⟨by simp only[g',if_neg hne];exact k1,k2⟩
 refine⟨e,nl,k,cs,cap,hget,hle,hlen,λc xs hcx=> ?_⟩;have hgetB:∀j,({st with env:=(s,oH.bv id e 0 k c)::st.env,box:=(id,some (cs++xs))::st.box}:ASt).getB j=if j=id then some (cs++xs) else st.getB j:=λj=>by simp only[ASt.getB,lk];split<;>rfl
 have hbox:∀j ds,st.getB j=some ds->∀c∈ds,fy c=true:=λj ds hj=>by
  simp only[ASt.getB] at hj;cases hl:lk st.box j with
  |none=>rw[hl] at hj;cases hj
  |some o=>rw[hl] at hj;simp only[Option.join_some] at hj;exact hfb _ (Gi hl) ds hj
 have hI':Inv K base g' w ({st with env:=(s,oH.bv id e 0 k c)::st.env,box:=(id,some (cs++xs))::st.box}:ASt).getB:=by
  refine⟨hI.fr,λb' hb' hw=> ?_,λi j x hi hj=> ?_,λj ds hj=> ?_,λj hj=> ?_,λj x hx=> ?_,λx l hx=> ?_,λm hm'=>am.mono hkp _ _ _ (hF.2 m hm'),hkp,λj x ds ho hb' hc hd=> ?_,λj x h1 h2 hx=>by
   simp only[g'] at hx;split at hx
   ·subst_vars;exact hid.no h1 h2
   exact hI.old j x h1 h2 hx⟩
  ·have hne:b'≠b:=λe=>by
    subst e;rcases hge with h|⟨h,_⟩
    ·omega
    exact hw h
   simp only[g',if_neg hne];exact hI.sS b' hb' hw
  ·simp only[g'] at hi hj;split at hi
   ·cases hi;split at hj
    ·subst_vars;rfl
    exact absurd hj (hmub j)
   split at hj
   ·cases hj;exact absurd hi (hmub i)
   exact hI.inj i j x hi hj
  ·rw[hgetB] at hj;split at hj
   ·rename_i he;subst he;cases hj;refine⟨b,by simp[g'],by simp[g'],λi d hi=> ?_⟩;have hi0:=hi;by_cases hic:i<cs.length
    rotate_left
    ·rw[List.getElem?_append_right (by omega)] at hi;rcases hcx with⟨rfl,_⟩|⟨_,rfl⟩
     ·cases hi
     obtain⟨hr1,hr2⟩:=List.getElem?_eq_some_iff.1 hi;rw[List.getElem_replicate] at hr2;subst hr2;rw[List.length_replicate,Nat.sub_mul] at hr1;have hkc:k*e<=cap*e:=Nat.mul_le_mul_right _ hle;obtain⟨h8,h9⟩:=hth i (by omega);rw[Nat.zero_add] at h8 h9;obtain⟨y,hy⟩:=Option.isSome_iff_exists.1 h8;exact⟨⟨y,hy,by simp[Rep]⟩,h9⟩
    rw[List.getElem?_append_left hic] at hi;obtain⟨_,x,hx,hr⟩:=hcells.get i d hi;rw[Nat.zero_add] at hx;have hilt:i<k*e:=by omega
    have hkc:k*e<=cap*e:=Nat.mul_le_mul_right _ hle;have hfz:=(hth i (by omega)).2;rw[Nat.zero_add] at hfz;refine⟨⟨x,hx,?_⟩,hfz⟩;have hmd:aC d=true:=Rh hmf (sj hi);exact Dm (g:=g) d x none _ hmd (ap.rep (g:=g) d x hr)
   rename_i hne;obtain⟨x,k1,k2,k3⟩:=hI.bxok j ds hj;have hxb:x≠b:=λe=>hmub j (e▸k1);refine⟨x,by simp only[g',if_neg hne];exact k1,by simp only[g',if_neg hxb];exact k2,λi d hi=> ?_⟩;obtain⟨⟨y,h4,h5⟩,h6⟩:=k3 i d hi;exact⟨⟨y,h4,top (by simp) (hbox j ds hj d (sj hi)) h5⟩,h6⟩
  ·rw[hgetB] at hj;split at hj
   ·cases hj
   rename_i hne;simp only[g',if_neg hne];exact hI.nobx j hj
  ·simp only[g'] at hx;split at hx
   ·cases hx;exact⟨hge.imp (λh=>h) (·.1),hbs,by simp[g']⟩
   obtain⟨h1,h2,h3⟩:=hI.muW j x hx;have hxb:x≠b:=λe=>hmub j (e▸hx);exact⟨h1,h2,by simp only[g',if_neg hxb];exact h3⟩
  ·simp only[g'] at hx;split at hx
   ·cases hx
   exact hI.owW x l hx
  have hne:j≠id:=λe=>by have:=hid.lt;omega
  rw[hgetB,if_neg hne] at hc;simp only[g',if_neg hne] at hb';refine dy.keep (hI.obok j x ds ho hb' hc hd) rfl λq hq=>⟨?_,rfl⟩;have hqb:q≠b:=λe=>by rw[e,how] at hq;cases hq
  simp only[g',if_neg hqb];exact hq
 refine⟨g',hI',λt=> ?_,hO,h⟩;unfold ASt.get;simp only[lk];by_cases ht:t=s
 ·subst ht;simp only[if_true];simp only[Rep];exact⟨b,cap,0,by simp[g'],hv,hle,by rcases hcx with⟨_,h,_⟩|⟨h,_⟩<;>omega,.inl rfl,λh=>by rcases hcx with⟨_,_,h2⟩|⟨h2,_⟩<;>omega⟩
 rw[if_neg ht];cases hlt:lk st.env t with
 |some d=>have:=hS t;unfold ASt.get at this;rw[hlt] at this;exact top (by simpa using ht) ((hfe _ (Gi hlt)).resolve_left ht) this
 |none=>
  cases hs:lk st.org t with
  |none=>simp[Abs.dem,Rep]
  |some d=>exact ap.dem (g:=g') _ (ap.mono (uU hI') d _ (hO t d hs))
theorem z4d(s id:Nat)(hF:KU K base)(hR:Rel K base n st a w)(hok:bK (.thaw s id) st):Rel K base n (oS (.thaw s id) st) a w:=by
 obtain⟨e,nl,k,cs,cap,hget,hle,hlen,H⟩:=T0 s id hF hR ⟨.inl hok.1,hok.2⟩;have hrun:oS (.thaw s id) st={st with env:=(s,.bv id e 0 k k)::st.env,box:=(id,some (cs++[]))::st.box}:=by simp only[oS,hget,List.append_nil]
 rw[hrun];exact H k [] (.inl ⟨rfl,rfl,by have:=hok.1;omega⟩)
theorem U0(b0 i0 id:Nat)(hF:KU K base)(hR:Rel K base n st a w)(hok:bK (.thawB b0 i0 id) st):Rel K base n (oS (.thawB b0 i0 id) st) a w:=hok.elim
theorem Wu(s:Nat)(hR:Rel K base n st a w):Rel K base n (oS (.unorg s) st) a w:=by
 obtain⟨g,hI,hS,hO,h⟩:=hR;have horg:∀t,lk (oS (.unorg s) st).org t=if t=s then none else lk st.org t:=λt=>by show lk (st.org.filter λp=>decide (p.1≠s)) t=_;rw[tz (λk=>decide (k≠s))];by_cases ht:t=s<;>simp[ht]
 refine⟨g,hI,λt=> ?_,λt d ht=> ?_,h⟩
 ·have:(oS (.unorg s) st).get t=st.get t:=by
   by_cases ht:t=s
   ·subst ht;show(match lk ((t,st.get t)::st.env) t with|some d=>d|none=>_)=_;simp[lk]
   unfold ASt.get;rw[horg,if_neg ht];show(match lk ((s,_)::st.env) t with|some d=>d|none=>_)=_;simp only[lk,if_neg ht];cases lk st.env t<;>rfl
  rw[this];exact hS t
 rw[horg] at ht;split at ht
 ·cases ht
 exact hO t d ht
theorem VG(b i:Nat)(hR:Rel K base n st a w)(hok:bK (.hideB b i) st):Rel K base n (oS (.hideB b i) st) a w:=by
 obtain⟨g,hI,hS,hO,h⟩:=hR;have hlt:b<1000000:=hok;cases hb:st.getB b with
 |none=>
  have:oS (.hideB b i) st=st:=by simp only[oS,hb]
  rw[this];exact⟨g,hI,hS,hO,h⟩
 |some bs=>
  have hrun:oS (.hideB b i) st={st with box:=(b,some (bs.set i .undef))::st.box}:=by simp only[oS,hb]
  rw[hrun];have hgetB:∀j,({st with box:=(b,some (bs.set i .undef))::st.box}:ASt).getB j=if j=b then some (bs.set i .undef) else st.getB j:=λj=>by
   show(lk ((b,some (bs.set i .undef))::st.box) j).join=_;by_cases hj:j=b
   ·simp[lk,hj]
   simp only[lk,if_neg hj];rfl
  refine⟨g,⟨hI.fr,hI.sS,hI.inj,λid cs hc=> ?_,λid hid=> ?_,hI.muW,hI.owW,hI.glob,hI.kp,λid x cs ho hx hc hd=> ?_,hI.old⟩,λs=>hS s,hO,h⟩
  ·rw[hgetB] at hc;split at hc
   ·rename_i hj;cases hc;subst hj;obtain⟨k,k1,k2,k3⟩:=hI.bxok id bs hb;refine⟨k,k1,k2,λt d hd=> ?_⟩;rw[List.getElem?_set] at hd;split at hd
    ·split at hd
     ·rename_i hti hl;cases hd;subst hti;obtain⟨⟨x,h4,_⟩,h6⟩:=k3 i _ (List.getElem?_eq_getElem hl);exact⟨⟨x,h4,by simp[Rep]⟩,h6⟩
     cases hd
    exact k3 t d hd
   exact hI.bxok id cs hc
  ·rw[hgetB] at hid;split at hid
   ·cases hid
   exact hI.nobx id hid
  rw[hgetB,if_neg (by omega)] at hc;exact hI.obok id x cs ho hx hc hd
theorem SS{K:Con}{g:Gh}{w:World}{l:Option Loc}(o:Option Nat){c:oH}{v:Value}(h:Rep K g w l c v):Rep K g w l (DZ o c) v:=by
 cases o with
 |none=>exact Rep.dem l h
 |some e=>
  unfold DZ;simp only;split
  ·simp only[Rep,ap] at h⊢;rcases h with⟨b,o,cap,_,_,_,h4,_⟩|⟨q,h1,_,_,_⟩
   ·exact absurd rfl h4
   exact⟨.inr ⟨q,h1,by simp⟩,λl' _=> .inl (.inr ⟨⟨q,h1⟩,by simp⟩)⟩
  exact h
theorem z6E(b i:Nat)(o:Option Nat)(hR:Rel K base n st a w)(hok:bK (.reB b i o) st):Rel K base n (oS (.reB b i o) st) a w:=by
 obtain⟨g,hI,hS,hO,h⟩:=hR;have hlt:b<1000000:=hok;cases hb:st.getB b with
 |none=>
  have:oS (.reB b i o) st=st:=by simp only[oS,hb]
  rw[this];exact⟨g,hI,hS,hO,h⟩
 |some bs=>
  have hrun:oS (.reB b i o) st={st with box:=(b,some (bs.set i (DZ o (bs.getD i .undef))))::st.box}:=by simp only[oS,hb]
  rw[hrun];have hgetB:∀j,({st with box:=(b,some (bs.set i (DZ o (bs.getD i .undef))))::st.box}:ASt).getB j=if j=b then some (bs.set i (DZ o (bs.getD i .undef))) else st.getB j:=λj=>by
   show(lk ((b,some (bs.set i (DZ o (bs.getD i .undef))))::st.box) j).join=_;by_cases hj:j=b
   ·simp[lk,hj]
   simp only[lk,if_neg hj];rfl
  refine⟨g,⟨hI.fr,hI.sS,hI.inj,λid cs hc=> ?_,λid hid=> ?_,hI.muW,hI.owW,hI.glob,hI.kp,λid x cs ho hx hc hd=> ?_,hI.old⟩,λs=>hS s,hO,h⟩
  ·rw[hgetB] at hc;split at hc
   ·rename_i hj;cases hc;subst hj;obtain⟨k,k1,k2,k3⟩:=hI.bxok id bs hb;refine⟨k,k1,k2,λt d hd=> ?_⟩;rw[List.getElem?_set] at hd;split at hd
    ·split at hd
     ·rename_i hti hl;cases hd;subst hti;have hgi:bs.getD i .undef=bs[i]:=by simp[List.getD,List.getElem?_eq_getElem hl]
      rw[hgi];obtain⟨⟨x,h4,h5⟩,h6⟩:=k3 i _ (List.getElem?_eq_getElem hl);exact⟨⟨x,h4,SS o h5⟩,h6⟩
     cases hd
    exact k3 t d hd
   exact hI.bxok id cs hc
  ·rw[hgetB] at hid;split at hid
   ·cases hid
   exact hI.nobx id hid
  rw[hgetB,if_neg (by omega)] at hc;exact hI.obok id x cs ho hx hc hd
theorem vr(gh:tJ)(hF:gh.cold=true)(hR:Rel K base n st a w)(hok:bK gh st):Rel K base n (oS gh st) a w:=by
 cases gh with
 |thaw s id=>cases hF
 |thawB b i id=>cases hF
 |unorg s=>exact Wu s hR
 |hideB b i=>exact VG b i hR hok
 |reB b i o=>exact z6E b i o hR hok
 |keep l=>exact vo l hR
 |drop ids=>exact z5h ids hR hok
 |freeze ids=>exact SP ids hR hok
 |norm ids=>
  obtain⟨g,hI,h⟩:=hR;refine⟨g,?_,h⟩;have:(oS (.norm ids) st).getB=st.getB:=funext λid=>by
   have e:(oS (.norm ids) st).getB id=(lk (ids.map λid=>(id,st.getB id)) id).join:=rfl;rw[e];have:∀l:List Nat,lk (l.map λid=>(id,st.getB id)) id=if id∈l then some (st.getB id) else none:=λl=>by
    induction l with
    |nil=>simp[lk]
    |cons t l ih=>
     simp only[List.map_cons,lk,ih,List.mem_cons];by_cases h:id=t
     ·subst h;simp
     simp[h]
   rw[this];by_cases hi:id∈ids
   ·rw[if_pos hi];rfl
   rw[if_neg hi];have:lk st.box id=none:=Do λp hp e=>hi (e▸hok p hp);simp[ASt.getB,this]
  rw[this];exact hI
theorem Ib:∀(gs:List tJ) {st:ASt},gs.all tJ.cold=true->Rel K base n st a w->iG gs st->Rel K base n (cZ gs st) a w
 |[],_,_,hR,_=>hR
 |g::gs,_,hF,hR,hok=>Ib gs (by simp only[List.all_cons,Bool.and_eq_true] at hF;exact hF.2) (vr g (by simp only[List.all_cons,Bool.and_eq_true] at hF;exact hF.1) hR hok.1) hok.2
end
def z2T(D:Nat):Deferred:={target:= .collected D,args:= #[]}
structure fY (K:Cx) (base base':aZ):Prop where
 inv:∀g w bx,Inv K base' g w bx->Inv K base g w bx
 org:aP base.S base.w0 base'.S base'.w0
 fr:Fr base.w0.heap.size base.W base.w0 base'.w0
 wr:∀b,base'.W b->b<base.w0.heap.size->base.W b
 marks:∃ms:List Nat,base'.dl=ms.map z2T++base.dl∧ms.Nodup∧(∀D∈ms,base.w0.heap.size<=D∧D<base'.w0.heap.size)∧
  ∀g w bx,Inv K base' g w bx->∀D∈ms,(g.S D=0∧(∀id,g.mu id≠some D)∧g.ow D=none)∧D<w.heap.size∧w.heap[D]? =some (.deferred (some []))
theorem fY.refl(K:Cx)(base:aZ):fY K base base:=
 ⟨λ_ _ _ h=>h,aP.refl _ _,Fr.refl _ _ _,λ_ h _=>h,[],rfl,List.nodup_nil,by simp,λ_ _ _ _ D hD=>by cases hD⟩
theorem fY.trans{K:Cx}{a b c:aZ}(h:fY K a b)(k:fY K b c):fY K a c:=by
 obtain⟨ms,e1,n1,h1,i1⟩:=h.marks;obtain⟨ms',e2,n2,h2,i2⟩:=k.marks;refine⟨λg w bx hi=>h.inv g w bx (k.inv g w bx hi),h.org.trans k.org,h.fr.trans (k.fr.mono h.fr.size λx hx hw=>h.wr x hw hx),λx hw hx=>h.wr x (k.wr x hw (Nat.lt_of_lt_of_le hx h.fr.size)) hx,ms'++ms,?_,?_,?_,?_⟩
 ·rw[e2,e1,List.map_append,List.append_assoc]
 ·refine List.nodup_append.2 ⟨n2,n1,λx hx y hy e=> ?_⟩;subst e;have:=(h2 x hx).1;have:=(h1 x hy).2;omega
 ·intro D hD;rcases List.mem_append.1 hD with hD|hD
  ·exact⟨Nat.le_trans h.fr.size (h2 D hD).1,(h2 D hD).2⟩
  exact⟨(h1 D hD).1,Nat.lt_of_lt_of_le (h1 D hD).2 k.fr.size⟩
 intro g w bx hi D hD;rcases List.mem_append.1 hD with hD|hD
 ·exact i2 g w bx hi D hD
 exact i1 g w bx (k.inv g w bx hi) D hD
def Ii(K:Cx)(base:aZ)(n:Nat)(Q:aB->ASt->Prop):Exit->Act->World->Prop
 | .normal,a,w=>∃base',fY K base base'∧∃st,Rel K base' n st a w∧Q .normal st
 | .exit id,a,w=>∃base',fY K base base'∧∃st,Rel K base' n st a w∧Q (.exit id) st
 | .ret,a,w=>∃base',fY K base base'∧∃st,Rel K base' n st a w∧Q .ret st
 |_,_,_=>False
theorem OE{K:Cx}{base base':aZ}{n:Nat}{Q:aB->ASt->Prop}(h:fY K base base'):∀e a w,Ii K base' n Q e a w->Ii K base n Q e a w:=by
 intro e a w hl;cases e<;>simp only[Ii] at hl⊢
 all_goals (obtain⟨b,hb,r⟩:=hl;exact⟨b,h.trans hb,r⟩)
def cr(g:Gh)(b:Nat):Prop:=g.S b=0∧(∀id,g.mu id≠some b)∧g.ow b=none
theorem cr.wr{g:Gh}{b:Nat}(h:cr g b):¬Wr g b:=by
 rintro(⟨id,hi⟩|ho)
 ·exact h.2.1 id hi
 exact ho h.2.2
section
variable {K : Cx} {base : aZ} {g g' : Gh} {A B : World} {bx bx' : Nat -> Option (List oH)} {O : Nat -> Prop} {dl : List Deferred}
theorem cV(hfr:Fr A.heap.size O A B)(h:∀b,O b->cr g b):aP g.S A g.S B:=λb i x hi hc=>by
 have hb:b<A.heap.size:=World.block_lt_of_cell? A ⟨b,i,none⟩ hc;have hO:¬O b:=λho=>by have:=(h b ho).1;omega
 refine⟨hi,?_⟩;rw[World.cell?_of_block (w:=A) (a:=⟨b,i,none⟩) (hfr.block b hb hO)];exact hc
theorem jo(hfr:Fr A.heap.size O A B)(h:∀b,O b->cr g b)(hlt:∀b l,g.ow b=some l->b<A.heap.size)(m:Loc):aQ g A g B m m:=λb hb=>by refine⟨hb,rfl,(hfr.block b (hlt b m hb) λho=> ?_)⟩;have:=(h b ho).2.2;rw[hb] at this;cases this
theorem K7(hfr:Fr A.heap.size O A B)(h:∀b,O b->cr g b)(hlt:∀b l,g.ow b=some l->b<A.heap.size){d:oH}{v:Value}{l:Option Loc}(hr:Rep K.toCon g A l d v):Rep K.toCon g B l d v:=
 Rep.mono (cV hfr h) d v l l (λ_ _ _ hb=>hb) (λm hm=>⟨m,hm,jo hfr h hlt m⟩) hr
theorem jC(hI:Inv K base g A bx)(hfr:Fr A.heap.size O A B)(h:∀b,O b->cr g b∧(base.w0.heap.size<=b∨base.W b)):Inv K base g B bx:=by
 have h1:∀b,O b->cr g b:=λb hb=>(h b hb).1;have hlt:∀b l,g.ow b=some l->b<A.heap.size:=λb l hb=>(hI.owW b l hb).2;have hk:=cV hfr h1;refine⟨hI.fr.trans (hfr.mono hI.fr.size λk hk ho=> ?_),hI.sS,hI.inj,λid cs hc=> ?_,hI.nobx,λid b hb=> ?_,λb l hl=> ?_,λn hn=>am.mono hk _ _ _ (hI.glob n hn),hI.kp.trans hk,λid b cs ho hb hc hd=>dy.keep (hI.obok id b cs ho hb hc hd) (hfr.block b (hI.muW id b hb).2.1 λhO=>(h1 b hO).2.1 id hb) λk hk'=>⟨hk',hfr.block k (hlt k _ hk') λhO=>by have:=(h1 k hO).2.2;rw[hk'] at this;cases this⟩,hI.old⟩
 ·rcases(h k ho).2 with h2|h2
  ·omega
  exact h2
 ·obtain⟨b,k1,k2,k3⟩:=hI.bxok id cs hc;have hbk:B.heap[b]? =A.heap[b]? :=hfr.block b (hI.muW id b k1).2.1 λho=>(h1 b ho).2.1 id k1;refine⟨b,k1,k2,λi d hi=> ?_⟩;obtain⟨⟨x,hx,hr⟩,hz⟩:=k3 i d hi;refine⟨⟨x,?_,K7 hfr h1 hlt hr⟩,?_⟩
  ·rw[World.cell?_of_block (w:=A) (a:=⟨b,i,none⟩) hbk];exact hx
  simp only[World.frozen?,hbk] at hz⊢;exact hz
 ·obtain⟨k1,k2,k3⟩:=hI.muW id b hb;exact⟨k1,Nat.lt_of_lt_of_le k2 hfr.size,k3⟩
 obtain⟨k1,k2⟩:=hI.owW b l hl;exact⟨k1,Nat.lt_of_lt_of_le k2 hfr.size⟩
theorem FV(hI:Inv K base g A bx){b:Nat}(h:Wr g b):base.w0.heap.size<=b∨base.W b:=by
 rcases h with⟨id,hi⟩|ho
 ·exact(hI.muW id b hi).1
 cases hl:g.ow b with
 |none=>exact absurd hl ho
 |some l=>exact(hI.owW b l hl).1
theorem TX(hI:Inv K base g A bx):Inv K ⟨A,Wr g,g.S,dl,base.mu0⟩ g A bx:=
 ⟨Fr.refl _ _ _,λ_ _ _=>rfl,hI.inj,hI.bxok,hI.nobx,λid b hb=>⟨.inr (.inl ⟨id,hb⟩),(hI.muW id b hb).2⟩,λb l hl=>⟨.inr (.inr (by rw[hl];simp)),(hI.owW b l hl).2⟩,hI.glob,aP.refl _ _,hI.obok,hI.old⟩
theorem Wv(hI:Inv K base g A bx)(h:Inv K ⟨A,Wr g,g.S,dl,base.mu0⟩ g' B bx'):Inv K base g' B bx':=by
 have hw:∀b,(A.heap.size<=b∨Wr g b)->base.w0.heap.size<=b∨base.W b:=λb hb=>by
  rcases hb with hb|hb
  ·exact .inl (Nat.le_trans hI.fr.size hb)
  exact FV hI hb
 refine⟨hI.fr.trans (h.fr.mono hI.fr.size λk hk hwk=> ?_),λb hb hnw=> ?_,h.inj,h.bxok,h.nobx,λid b hb=> ?_,λb l hl=> ?_,h.glob,hI.kp.trans h.kp,h.obok,h.old⟩
 ·rcases FV hI hwk with hx|hx
  ·omega
  exact hx
 ·have h1:¬Wr g b:=λhx=>by
   rcases FV hI hx with hy|hy
   ·omega
   exact hnw hy
  rw[h.sS b (Nat.lt_of_lt_of_le hb hI.fr.size) h1];exact hI.sS b hb hnw
 ·obtain⟨k1,k2⟩:=h.muW id b hb;exact⟨hw b k1,k2⟩
 obtain⟨k1,k2⟩:=h.owW b l hl;exact⟨hw b k1,k2⟩
theorem Gq(hI:Inv K base g A bx):aP base.S base.w0 (aZ.S ⟨A,Wr g,g.S,dl,base.mu0⟩) A:=λb i x hi hc=>by
 have hb:b<base.w0.heap.size:=World.block_lt_of_cell? base.w0 ⟨b,i,none⟩ hc;unfold aZ.S at hi;split at hi
 ·rename_i h;have h1:¬Wr g b:=λhx=>by
   rcases FV hI hx with hy|hy
   ·omega
   exact h.2 hy
  refine⟨?_,?_⟩
  ·unfold aZ.S;rw[if_pos ⟨Nat.lt_of_lt_of_le hb hI.fr.size,h1⟩];show i<g.S b;rw[hI.sS b h.1 h.2];exact hi
  rw[World.cell?_of_block (w:=base.w0) (a:=⟨b,i,none⟩) (hI.fr.block b h.1 h.2)];exact hc
 omega
theorem FT(h:Inv K ⟨A,Wr g,g.S,dl,base.mu0⟩ g' B bx'){b:Nat}(hb:b<A.heap.size)(ha:cr g b):cr g' b:=by
 refine⟨?_,λid hi=> ?_,?_⟩
 ·rw[h.sS b hb ha.wr];exact ha.1
 ·rcases(h.muW id b hi).1 with h1|h1
  ·exact absurd hb (Nat.not_lt.2 h1)
  exact ha.wr h1
 cases hl:g'.ow b with
 |none=>rfl
 |some l=>
  rcases(h.owW b l hl).1 with h1|h1
  ·exact absurd hb (Nat.not_lt.2 h1)
  exact absurd h1 ha.wr
theorem Dl(h:Inv K ⟨A,Wr g,g.S,dl,base.mu0⟩ g' B bx'){b:Nat}(hb:b<A.heap.size)(ha:cr g b):B.heap[b]? =A.heap[b]? :=h.fr.block b hb ha.wr
theorem Tr(hI:Inv K base g A bx)(ms:List Nat)(hn:ms.Nodup)(hm:∀D∈ms,base.w0.heap.size<=D∧D<A.heap.size∧cr g D∧A.heap[D]? =some (.deferred (some []))):fY K base ⟨A,Wr g,g.S,ms.map z2T++base.dl,base.mu0⟩:=
 ⟨λg' w bx' h=>Wv hI h,Gq hI,hI.fr,λb hw hb=>(FV hI hw).resolve_left (by omega),ms,rfl,hn,λD hD=>⟨(hm D hD).1,(hm D hD).2.1⟩,λg' w bx' h D hD=>by
  obtain⟨k1,k2,k3,k4⟩:=hm D hD;exact⟨FT h k2 k3,Nat.lt_of_lt_of_le k2 h.fr.size,by rw[Dl h k2 k3];exact k4⟩⟩
end
mutual
def toV:oH->Value
 | .lit v=>v
 | .agg cs=> .agg (nE cs).toArray
 | .tup cs=> .tuple (nE cs).toArray
 |_=>undef
def nE:List oH->List Value
 |[]=>[]
 |c::cs=>toV c::nE cs
end
mutual
theorem J2{K:Con}{g:Gh}{w:World}:∀(c:oH) (l:Option Loc),aC c=true->Rep K g w l c (toV c)
 | .lit v,_,_=>by simp[Rep,toV]
 | .agg cs,_,h=>by simp only[aC] at h;simp only[Rep,toV];exact⟨_,rfl,by simpa using MD cs h⟩
 | .tup cs,_,h=>by simp only[aC] at h;simp only[Rep,toV];exact⟨_,rfl,by simpa using MD cs h⟩
 | .undef,_,h=>by simp[aC] at h
 | .sl _ _ _ _,_,h=>by simp[aC] at h
 | .bp _ _,_,h=>by simp[aC] at h
 | .bv _ _ _ _ _,_,h=>by simp[aC] at h
 | .ep _,_,h=>by simp[aC] at h
 | .otup _ _ _ _ _,_,h=>by simp[aC] at h
 | .mp _,_,h=>by simp[aC] at h
 | .pv _ _ _ _,_,h=>by simp[aC] at h
 | .oagg _ _,_,h=>by simp[aC] at h
 | .fn _ _ _,_,h=>by simp[aC] at h
theorem MD{K:Con}{g:Gh}{w:World}:∀(cs:List oH),aj cs=true->an K g w cs (nE cs)
 |[],_=>by simp[an,nE]
 |c::cs,h=>by simp only[aj,Bool.and_eq_true] at h;simp only[an,nE];exact⟨_,_,rfl,J2 c none h.1,MD cs h.2⟩
end
theorem LA:∀cs,(nE cs).length=cs.length
 |[]=>rfl
 |_::cs=>by simp[nE,LA cs]
theorem R8:∀(cs:List oH) (i:Nat),(nE cs)[i]? =(cs[i]?).map toV
 |[],i=>by simp[nE]
 |c::cs,0=>by simp[nE]
 |c::cs,i+1=>by simp[nE,R8 cs i]
mutual
theorem E8{K:Con}{g:Gh}{w:World}:∀(c:oH) (v:Value) (l:Option Loc),aC c=true->Rep K g w l c v->v=toV c
 | .lit x,v,_,_,h=>by simpa[Rep,toV] using h
 | .agg cs,v,_,hm,h=>by simp only[aC] at hm;simp only[Rep] at h;obtain⟨a,rfl,h⟩:=h;simp only[toV,Value.agg.injEq];rw[<-C9 cs _ hm h]
 | .tup cs,v,_,hm,h=>by simp only[aC] at hm;simp only[Rep] at h;obtain⟨a,rfl,h⟩:=h;simp only[toV,Value.tuple.injEq];rw[<-C9 cs _ hm h]
 | .undef,_,_,h,_=>by simp[aC] at h
 | .sl _ _ _ _,_,_,h,_=>by simp[aC] at h
 | .bp _ _,_,_,h,_=>by simp[aC] at h
 | .bv _ _ _ _ _,_,_,h,_=>by simp[aC] at h
 | .ep _,_,_,h,_=>by simp[aC] at h
 | .otup _ _ _ _ _,_,_,h,_=>by simp[aC] at h
 | .mp _,_,_,h,_=>by simp[aC] at h
 | .pv _ _ _ _,_,_,h,_=>by simp[aC] at h
 | .oagg _ _,_,_,h,_=>by simp[aC] at h
 | .fn _ _ _,_,_,h,_=>by simp[aC] at h
theorem C9{K:Con}{g:Gh}{w:World}:∀(cs:List oH) (vs:List Value),aj cs=true->an K g w cs vs->vs=nE cs
 |[],vs,_,h=>by simpa[an,nE] using h
 |c::cs,vs,hm,h=>by simp only[aj,Bool.and_eq_true] at hm;simp only[an] at h;obtain⟨x,xs,rfl,h1,h2⟩:=h;rw[nE,<-E8 c x none hm.1 h1,<-C9 cs xs hm.2 h2]
end
structure Ny (K:Cx) (S:Nat->Nat) (el:Nat->Option (List oH)) (l:Nat) (J:Nat->(Nat->Prop)->World->Prop) (Jx:(Nat->Prop)->World->Prop) (N:Nat) (O0:Nat->Prop) (w:World):Prop where
 start:J 0 O0 w
 bound:∀i O A,J i O A->i<=N
 stab:∀i (O O':Nat->Prop) A B,J i O A->Fr A.heap.size O A B->(∀b,O' b->(O b∨A.heap.size<=b)∧b<B.heap.size)->J i O' B
 stabx:∀(O O':Nat->Prop) A B,Jx O A->Fr A.heap.size O A B->(∀b,O' b->(O b∨A.heap.size<=b)∧b<B.heap.size)->Jx O' B
 round:∀i O A xs q,J i O A->el i=some xs->YieldAt Fence.wide q K.P l (nE xs).toArray A λe B=>
  aP S w S B∧(∀b,O b->B.heap[b]? =A.heap[b]?)∧A.heap.size<=B.heap.size∧B.os=A.os∧B.tape=A.tape∧B.output=A.output∧
   ((e= .returned (.bool true)∧J (i+1) O B)∨(e= .returned (.bool false)∧Jx O B))
structure z6m (K:Cx) (S:Nat->Nat) (w:World) (lv:List Nat) (B:Nat->Option Nat) (y:List oH) (vy:List Value):Prop where
 len:y.length=vy.length
 at':∀(i:Nat) d v,y[i]? =some d->vy[i]? =some v->if i∈lv then∃b cs,B i=some b∧d= .ep cs∧v= .pointer (some ⟨b,0,none⟩)∧S b=0∧b<w.heap.size∧aj cs=true∧∀(j:Nat) e,cs[j]? =some e->w.cell? ⟨b,j,none⟩=some (toV e)∧w.frozen? ⟨b,j,none⟩=false else ap K.toCon S w d v
 inj:∀i j b,B i=some b->B j=some b->i=j
 dom:∀i b,B i=some b->i∈lv
 lt:∀i∈lv,i<y.length
def uu(K:Cx)(f:Nat)(c:ItC):Prop:=
 ek K.P (K.nu f)∧∀(S:Nat->Nat) (w:World) (x y:List oH) (vx vy:List Value) (B:Nat->Option Nat),(∀n∈K.N.gs,am K.toCon S w (K.E.T n) (K.N.gnum n) 0)->ag K.toCon S w x vx->z6m K S w c.lv B y vy->c.pre x y->
  ∀l J Jx N,Ny K S (c.el x y) l J Jx N (λb=>∃i,B i=some b) w->
   Calls K.P (K.nu f) (vx++Value.func (.yield l) #[] #[]::vy).toArray w λe B'=>∃v,e= .returned v∧∃O,(∀b,(∃i,B i=some b)->O b)∧((∃i,c.el x y i=none∧J i O B')∨Jx O B')
section
variable {K : Cx} {base : aZ} {n : Nat} {st : ASt} {a : Act} {w : World}
structure PS (K:Cx) (base:aZ) (st:ASt) (ks:List Nat) (a:Act) (l D:Nat) (S0:Nat->Nat) (w0 w1:World) (bx:List (Nat×Option (List oH))) (O:Nat->Prop) (g:Gh) (A:World):Prop where
 inv:Inv K base g A (ASt.getB {org:=st.org,env:=dz st ks,box:=bx})
 slots:dI K g A (ASt.get {org:=st.org,env:=dz st ks,box:=bx}) a
 apart:∀b,O b∨b=l∨b=D->cr g b∧(base.w0.heap.size<=b∨base.W b)∧b<A.heap.size
 noL:¬O l
 noD:¬O D
 blkD:A.heap[D]? =some (.deferred (some []))
 kp:aP S0 w1 g.S A
theorem PL(st:ASt)(ks:List Nat)(bx:List (Nat×Option (List oH)))(s:Nat):ASt.get {org:=st.org,env:=dz st ks,box:=bx} s=if s∈ks then dem (st.get s) else dem ((lk st.org s).getD .undef):=by show(match lk (dz st ks) s with|some d=>d|none=>_)=_;rw[show lk (dz st ks) s=if s∈ks then some (dem (st.get s)) else none from qo (λs=>dem (st.get s)) s ks];by_cases hs:s∈ks<;>simp[hs]
theorem JH{g:Gh}{w:World}{ks:List Nat}{bx:List (Nat×Option (List oH))}(h:∀s∈ks,Rep K.toCon g w none (dem (st.get s)) (a.tmps.getD s undef))(ho:∀s d,lk st.org s=some d->ap K.toCon g.S w d (a.tmps.getD s undef)):
  dI K g w (ASt.get {org:=st.org,env:=dz st ks,box:=bx}) a:=λs=>by
 rw[PL];have hd:∀d:oH,ao (dem d)=false:=AF;split
 ·rename_i hs;exact Bv _ (hd _) (h s hs)
 cases hl:lk st.org s with
 |none=>simp[Abs.dem,Rep]
 |some d=>exact ap.dem (g:=g) _ (ho s d hl)
theorem VE{ps:List Tmp}:∀{vs:List Value} {tmps:Array Value},ps.Nodup->ps.length=vs.length->(∀p∈ps,p<tmps.size)->
  (((ps.zip vs).foldl (λt (x:Tmp×Value)=>t.setIfInBounds x.1 x.2) tmps).size=tmps.size∧
   (∀s,s∉ps->((ps.zip vs).foldl (λt (x:Tmp×Value)=>t.setIfInBounds x.1 x.2) tmps).getD s undef=tmps.getD s undef)∧
   ∀(i:Nat) p v,ps[i]? =some p->vs[i]? =some v->((ps.zip vs).foldl (λt (x:Tmp×Value)=>t.setIfInBounds x.1 x.2) tmps).getD p undef=v):=by
 induction ps with
 |nil=>intro vs tmps _ _ _;simp
 |cons p ps ih=>
  intro vs tmps hn hl hlt;cases vs with
  |nil=>simp at hl
  |cons v vs=>
   rw[List.nodup_cons] at hn;obtain⟨h1,h2,h3⟩:=ih (vs:=vs) (tmps:=tmps.setIfInBounds p v) hn.2 (by simpa using hl) (λq hq=>by simp;exact hlt q (by simp[hq]));simp only[List.zip_cons_cons,List.foldl_cons];refine⟨by rw[h1];simp,λs hs=> ?_,λi q u hi hu=> ?_⟩
   ·simp only[List.mem_cons,not_or] at hs;rw[h2 s hs.2,Array.getD_eq_getD_getElem?,Array.getElem?_setIfInBounds,if_neg (λe=>hs.1 e.symm),<-Array.getD_eq_getD_getElem?]
   cases i with
   |zero=>simp at hi hu;subst hi hu;rw[h2 p hn.1,Array.getD_eq_getD_getElem?,Array.getElem?_setIfInBounds];simp[hlt p (by simp)]
   |succ i=>exact h3 i q u (by simpa using hi) (by simpa using hu)
theorem Py{ps:List Nat}{xs:List oH}{s:Nat}(h:s∉ps):lk (ps.zip xs) s=none:=by
 induction ps generalizing xs with
 |nil=>simp[lk]
 |cons p ps ih=>
  cases xs with
  |nil=>simp[lk]
  |cons x xs=>simp only[List.mem_cons,not_or] at h;simp only[List.zip_cons_cons,lk,if_neg h.1];exact ih h.2
theorem IT{ps:List Nat}:∀{xs:List oH} {s:Nat},ps.length=xs.length->s∈ps->∃(i:Nat) (x:oH),ps[i]? =some s∧xs[i]? =some x∧lk (ps.zip xs) s=some x:=by
 induction ps with
 |nil=>intro xs s _ h;cases h
 |cons p ps ih=>
  intro xs s hl h;cases xs with
  |nil=>simp at hl
  |cons x xs=>
   simp only[List.zip_cons_cons,lk];by_cases e:s=p
   ·rw[if_pos e];exact⟨0,x,by simp[e],by simp,rfl⟩
   rw[if_neg e];obtain⟨i,y,h1,h2,h3⟩:=ih (xs:=xs) (by simpa using hl) ((List.mem_cons.1 h).resolve_left e);exact⟨i+1,y,by simpa using h1,by simpa using h2,h3⟩
theorem VC{ks ps:List Nat}{qs:Array Tmp}{xs:List oH}{bx:List (Nat×Option (List oH))}{O:Nat->Prop}{g:Gh}{A:World}{l D:Nat}(hps:qs.toList=ps)(hnd:ps.Nodup)(hlt:∀p∈ps,p<n)(hsz:a.tmps.size=n)
  (hlen:xs.length=ps.length) (hmf:aj xs=true) (hpk:∀p∈ps,p∉ks∧lk st.org p=none) (hO:kS K base st a) {S0:Nat->Nat} {w1:World} (h:PS K base st ks a l D S0 w w1 bx O g A):
  Rel K ⟨A,Wr g,g.S,[],base.mu0⟩ n (oo st ks ps (λs=>a.tmps.getD s undef) xs bx) {tmps:=(qs.zip (nE xs).toArray).foldl (λt (x:Tmp×Value)=>t.setIfInBounds x.1 x.2) a.tmps,defers:=[]} A:=by
 have e1:(qs.zip (nE xs).toArray).foldl (λt (x:Tmp×Value)=>t.setIfInBounds x.1 x.2) a.tmps=(ps.zip (nE xs)).foldl (λt (x:Tmp×Value)=>t.setIfInBounds x.1 x.2) a.tmps:=by rw[<-hps,<-Array.foldl_toList,Array.toList_zip]
 obtain⟨f1,f2,f3⟩:=VE (ps:=ps) (vs:=nE xs) (tmps:=a.tmps) hnd (by rw[LA,hlen]) (λp hp=>by rw[hsz];exact hlt p hp);rw[e1];refine⟨g,TX h.inv,λs=> ?_,λs d hd=> ?_,rfl,by simp only;rw[f1,hsz]⟩
 ·have hg:ASt.get (oo st ks ps (λs=>a.tmps.getD s undef) xs bx) s=if s∈ps then(lk (ps.zip xs) s).getD .undef else if s∈ks then dem (st.get s) else dem ((lk st.org s).getD .undef):=by
   show(match lk (ps.zip xs++dz st ks) s with|some d=>d|none=>dem ((lk ((ks.map λs=>(s,oH.lit (a.tmps.getD s undef)))++st.org) s).getD .undef))=_;rw[aI,aI,show lk (dz st ks) s=if s∈ks then some (dem (st.get s)) else none from qo (λs=>dem (st.get s)) s ks,
    show lk (ks.map λs=>(s,oH.lit (a.tmps.getD s undef))) s=if s∈ks then some (oH.lit (a.tmps.getD s undef)) else none from qo (λs=>oH.lit (a.tmps.getD s undef)) s ks]
   by_cases hp:s∈ps
   ·obtain⟨i,x,_,_,e⟩:=IT hlen.symm hp;simp[e,hp]
   rw[Py hp];by_cases hk:s∈ks<;>simp[hp,hk]
  rw[hg];by_cases hp:s∈ps
  ·obtain⟨i,x,h1,h2,e⟩:=IT hlen.symm hp;rw[if_pos hp,e,Option.getD_some];have hv:(nE xs)[i]? =some (toV x):=by rw[R8,h2];rfl
   rw[f3 i s _ h1 hv];have hmx:∀(cs:List oH) (i:Nat) (c:oH),aj cs=true->cs[i]? =some c->aC c=true:=λcs=>by
    induction cs with
    |nil=>intro i c _ h;simp at h
    |cons c cs ih=>
     intro i d hm hd;simp only[aj,Bool.and_eq_true] at hm;cases i with
     |zero=>simp at hd;subst hd;exact hm.1
     |succ i=>exact ih i d hm.2 (by simpa using hd)
   exact J2 x _ (hmx xs i x hmf h2)
  rw[if_neg hp,f2 s hp];have:=h.slots s;rw[PL] at this;exact this
 show ap K.toCon _ A d _;have hd':lk ((ks.map λs=>(s,oH.lit (a.tmps.getD s undef)))++st.org) s=some d:=hd;rw[aI,show lk (ks.map λs=>(s,oH.lit (a.tmps.getD s undef))) s=if s∈ks then some (oH.lit (a.tmps.getD s undef)) else none from qo (λs=>oH.lit (a.tmps.getD s undef)) s ks] at hd';by_cases hk:s∈ks
 ·rw[if_pos hk] at hd';simp only[Option.some_or,Option.some.injEq] at hd';subst hd';have hp:s∉ps:=λhp=>(hpk s hp).1 hk;simp only[ap];rw[f2 s hp]
 rw[if_neg hk] at hd';simp only[Option.none_or] at hd';have hp:s∉ps:=λhp=>by have:=(hpk s hp).2;rw[hd'] at this;cases this
 rw[f2 s hp];exact ap.mono (Gq h.inv) d _ (hO s d hd')
def recL(fn:FuncId)(a:Act)(qs:Array Tmp)(p q:Code)(D:Nat)(s:LoopState)(pe:Option Code):Loop:={state:=s,pending:=pe,fn,tmps:=a.tmps,params:=qs,assign:=p,body:=q,defers:=D}
theorem da(A:World)(l:Nat)(o:Obj):Fr A.heap.size (λb=>b=l) A (A.putObj l o):=by refine⟨rfl,rfl,rfl,by simp[World.putObj],λk _ hk=> ?_⟩;exact World.putObj_heap_other hk
theorem Tb{P:Program}{ev:Operand->Value}{G:Operand}{f:FuncId}{first caps:Array Value}(h:ev G= .func (.func f) first caps)(hc:∀v,ev (.const v)=v)(l:Nat)(w:World):
  (resolve ev (rangeCall G l) 0).run P w= .ok {target:= .fn (.func f) caps,args:=first++ #[.func (.yield l) #[] #[]]} w:=by
 simp only[resolve,h];simp[go_sem,hc]
theorem Tj(va vc:Array Value)(y:Value):(va.toList++y::vc.toList).toArray=va++ #[y]++vc:=by apply Array.toList_inj.1;simp
def FM(g:Gh)(ids:List Nat):Gh:={g with mu:=λid=>if id∈ids then none else g.mu id}
theorem OZ{g:Gh}{ids:List Nat}{d:oH}{v:Value}{l:Option Loc}(hd:∀id∈aF d,id∉ids)(hr:Rep K.toCon g w l d v):Rep K.toCon (FM g ids) w l d v:=
 Rep.mono (g:=g) (g':=FM g ids) (aP.refl g.S w) d v l l (λid hid b hb=>by simp only[FM,if_neg (hd id hid)];exact hb) (λm hm=>⟨m,hm,λb hb=>⟨hb,rfl,rfl⟩⟩) hr
theorem Vg{g:Gh}{ids:List Nat}{o e:List (Nat×oH)}(hI:Inv K base g w st.getB)(h2:∀p∈st.box,p.1∈ids∨∀cs,p.2=some cs->∀id∈pT cs,id∉ids):
  Inv K base (FM g ids) w (ASt.getB {org:=o,env:=e,box:=rmB ids st.box}):=by
 have hgetB:∀id,ASt.getB {org:=o,env:=e,box:=rmB ids st.box} id=if id∈ids then none else st.getB id:=λid=>by
  simp only[ASt.getB,rmB];rw[tz (λk=> !ids.contains k)];by_cases hi:id∈ids
  ·simp[hi]
  simp[hi]
 refine⟨hI.fr,hI.sS,λi j b hi hj=> ?_,λid cs hc=> ?_,λid hid=> ?_,λid b hb=> ?_,hI.owW,hI.glob,hI.kp,λid b cs ho hb hc hd=> ?_,λj x h1 h2 hx=>by
  simp only[FM] at hx;split at hx
  ·cases hx
  exact hI.old j x h1 h2 hx⟩
 ·simp only[FM] at hi hj;split at hi
  ·cases hi
  split at hj
  ·cases hj
  exact hI.inj i j b hi hj
 ·rw[hgetB] at hc;split at hc
  ·cases hc
  rename_i hni;obtain⟨b,k1,k2,k3⟩:=hI.bxok id cs hc;refine⟨b,by simp only[FM,if_neg hni];exact k1,k2,λi d hi=> ?_⟩;obtain⟨⟨x,h4,h5⟩,h6⟩:=k3 i d hi;have hbox:∃c,lk st.box id=some (some c)∧c=cs:=by
   simp only[ASt.getB] at hc;cases hl:lk st.box id with
   |none=>rw[hl] at hc;cases hc
   |some o=>rw[hl] at hc;simp only[Option.join_some] at hc;exact⟨cs,by rw[hc],rfl⟩
  obtain⟨c,hl,rfl⟩:=hbox;have:=(h2 _ (Gi hl)).resolve_left hni c rfl;exact⟨⟨x,h4,OZ (λid' hid'=>this id' (F7 (sj hi) hid')) h5⟩,h6⟩
 ·rw[hgetB] at hid;simp only[FM];split
  ·rfl
  rename_i hni;rw[if_neg hni] at hid;exact hI.nobx id hid
 ·simp only[FM] at hb;split at hb
  ·cases hb
  exact hI.muW id b hb
 simp only[FM] at hb;rw[hgetB] at hc;split at hc
 ·cases hc
 rename_i hni;rw[if_neg hni] at hb;exact hI.obok id b cs ho hb hc hd
theorem NB{lv:List Nat}{y:List oH}{id:Nat}:id∈bI lv y↔∃i∈lv,y[i]? =some (.bp id 0):=by
 simp only[bI,List.mem_filterMap];constructor
 ·rintro⟨i,hi,h⟩;refine⟨i,hi,?_⟩;split at h
  ·rename_i e;rw[e];cases h;rfl
  cases h
 rintro⟨i,hi,h⟩;exact⟨i,hi,by simp[h]⟩
def lvB(g:Gh)(lv:List Nat)(y:List oH)(i:Nat):Option Nat:=if i∈lv then(match y[i]? with|some (.bp id 0)=>g.mu id|_=>none) else none
theorem IM{g:Gh}{lv:List Nat}{y:List oH}{i b:Nat}(h:lvB g lv y i=some b):i∈lv∧∃id,y[i]? =some (.bp id 0)∧g.mu id=some b:=by
 unfold lvB at h;split at h
 ·rename_i hi;split at h
  ·rename_i id e;exact⟨hi,id,e,h⟩
  cases h
 cases h
theorem z1x{g:Gh}{ks lv:List Nat}{x y:List oH}{vy:List Value}(hI:Inv K base g w st.getB)(hok:ZW st ks lv x y)(hr:an K.toCon g w y vy):z6m K g.S w lv (lvB g lv y) (epY st.getB lv y) vy:=by
 obtain⟨hp,h1,h2,_,_⟩:=hok;have hl:(epY st.getB lv y).length=y.length:=by simp[epY]
 refine⟨by rw[hl];exact hr.len,λi d v hd hv=> ?_,λi j b hi hj=> ?_,λi b hi=>(IM hi).1,λi hi=> ?_⟩
 ·rw[z2l] at hd;cases hy:y[i]? with
  |none=>rw[hy] at hd;cases hd
  |some d'=>
   rw[hy] at hd;simp only[Option.map_some,Option.some.injEq] at hd;obtain⟨v',hv',hrep⟩:=hr.get i d' hy;rw[hv] at hv';cases hv';by_cases hi:i∈lv
   ·rw[if_pos hi];obtain⟨id,cs,e1,_,e2,e3⟩:=h1 i hi;rw[hy] at e1;cases e1;rw[if_pos hi] at hd;simp only[e2,Option.getD_some] at hd;simp only[Rep] at hrep;obtain⟨b,hb,rfl⟩:=hrep;obtain⟨b',k1,k2,k3⟩:=hI.bxok id cs e2;rw[hb] at k1;cases k1;refine⟨b,cs,by simp only[lvB,if_pos hi,hy];exact hb,hd.symm,rfl,k2,(hI.muW id b hb).2.1,e3,λj e he=> ?_⟩;obtain⟨⟨z,hz,hrz⟩,hf⟩:=k3 j e he;have hme:aC e=true:=by
     have:∀(cs:List oH) (j:Nat),aj cs=true->cs[j]? =some e->aC e=true:=λcs=>by
      induction cs with
      |nil=>intro j _ h;simp at h
      |cons c cs ih=>
       intro j hm hd;simp only[aj,Bool.and_eq_true] at hm;cases j with
       |zero=>simp at hd;subst hd;exact hm.1
       |succ j=>exact ih j hm.2 (by simpa using hd)
     exact this cs j e3 he
    rw[<-E8 e z _ hme hrz];exact⟨hz,hf⟩
   rw[if_neg hi];rw[if_neg hi] at hd;subst hd;have hpu:ak d'=true:=by
    have:=(bE _).1 hp d' (List.mem_append_right _ (by
     have hh:(epY st.getB lv y)[i]? =some d':=by rw[z2l,hy];simp[hi]
     exact List.mem_of_getElem? hh))
    exact this
   exact Rep.pure d' v none hpu hrep
 ·obtain⟨a1,id,a2,a3⟩:=IM hi;obtain⟨b1,jd,b2,b3⟩:=IM hj;have:=hI.inj id jd b a3 b3;subst this;exact h2 i a1 j b1 (by rw[a2,b2])
 obtain⟨id,cs,e1,_⟩:=h1 i hi;rw[hl];exact(List.getElem?_eq_some_iff.1 e1).1
theorem z6m.keep{S S':Nat->Nat}{w':World}{lv:List Nat}{B:Nat->Option Nat}{y:List oH}{vy:List Value}(hk:aP S w S' w')(h0:∀i b,B i=some b->S' b=0)(hs:w.heap.size<=w'.heap.size)(hb:∀i b,B i=some b->w'.heap[b]? =w.heap[b]?)(h:z6m K S w lv B y vy):z6m K S' w' lv B y vy:=by
 refine⟨h.len,λi d v hd hv=> ?_,h.inj,h.dom,h.lt⟩;have:=h.at' i d v hd hv;by_cases hi:i∈lv
 ·rw[if_pos hi] at this⊢;obtain⟨b,cs,k1,k2,k3,_,k5,k6,k7⟩:=this;refine⟨b,cs,k1,k2,k3,h0 i b k1,by omega,k6,λj e he=> ?_⟩;obtain⟨c1,c2⟩:=k7 j e he;have hbk:=hb i b k1;refine⟨?_,?_⟩
  ·rw[World.cell?_of_block (w:=w) (a:=⟨b,j,none⟩) hbk];exact c1
  simp only[World.frozen?,hbk] at c2⊢;exact c2
 rw[if_neg hi] at this⊢;exact ap.mono hk d v this
theorem Zb(ids:List Nat)(st:ASt)(s:Nat):(dc ids st).get s= .undef∨(dc ids st).get s=st.get s:=by
 have e:lk (dc ids st).env s=(lk st.env s).map λd=>if(aF d).any (ids.contains ·) then .undef else d:=Lt (λd=>if(aF d).any (ids.contains ·) then oH.undef else d) s st.env;unfold ASt.get;rw[e];cases lk st.env s with
 |none=>exact .inr rfl
 |some d=>
  simp only[Option.map_some];split
  ·exact .inl rfl
  exact .inr rfl
theorem Ur{ids:List Nat}{st:ASt}{s:Nat}(h:∀id∈aF (st.get s),id∉ids):(dc ids st).get s=st.get s:=by
 have e:lk (dc ids st).env s=(lk st.env s).map λd=>if(aF d).any (ids.contains ·) then .undef else d:=Lt (λd=>if(aF d).any (ids.contains ·) then oH.undef else d) s st.env;unfold ASt.get at h⊢;rw[e];cases hl:lk st.env s with
 |none=>rfl
 |some d=>rw[hl] at h;simp only[Option.map_some];rw[if_neg];simp only[List.any_eq_true,List.contains_eq_mem,decide_eq_true_eq,not_exists,not_and];exact h
def CQ(g gB:Gh)(ids:List Nat):Gh:={gB with mu:=λid=>if id∈ids then g.mu id else gB.mu id}
theorem SA{g gB:Gh}{ids:List Nat}(hn:∀id∈ids,gB.mu id=none){d:oH}{v:Value}{l:Option Loc}(hr:Rep K.toCon gB w l d v):Rep K.toCon (CQ g gB ids) w l d v:=
 Rep.mono (g:=gB) (g':=CQ g gB ids) (aP.refl gB.S w) d v l l (λid _ b hb=>by
  simp only[CQ];split
  ·rename_i h;rw[hn id h] at hb;cases hb
  exact hb) (λm hm=>⟨m,hm,λb hb=>⟨hb,rfl,rfl⟩⟩) hr
theorem z1g{g gB:Gh}{ids:List Nat}{o e o' e':List (Nat×oH)}{bx:List (Nat×Option (List oH))}(hI:Inv K base gB w (ASt.getB {org:=o,env:=e,box:=bx}))(hn:∀id∈ids,(lk bx id).join=none)(hlt:∀id∈ids,id<1000000)
  (hinj:∀i j b,g.mu i=some b->g.mu j=some b->i=j) (hold:∀id b,400000<=id->id<500000->g.mu id=some b->base.mu0 id=some b) (hap:∀id∈ids,∃b,g.mu id=some b∧cr gB b∧(base.w0.heap.size<=b∨base.W b)∧b<w.heap.size):
  Inv K base (CQ g gB ids) w (ASt.getB {org:=o',env:=e',box:=bkB ids bx}):=by
 have hmn:∀id∈ids,gB.mu id=none:=λid hid=>hI.nobx id (hn id hid);have hgetB:∀id,ASt.getB {org:=o',env:=e',box:=bkB ids bx} id=if id∈ids then some [] else ASt.getB {org:=o,env:=e,box:=bx} id:=λid=>by
  simp only[ASt.getB,bkB,aI];have:lk (ids.map λid=>(id,(some []:Option (List oH)))) id=if id∈ids then some (some []) else none:=by
   induction ids with
   |nil=>simp[lk]
   |cons t l ih=>
    simp only[List.map_cons,lk,List.mem_cons];by_cases h:id=t
    ·simp[h]
    rw[if_neg h,ih (λi hi=>hn i (by simp[hi])) (λi hi=>hlt i (by simp[hi])) (λi hi=>hap i (by simp[hi])) (λi hi=>hmn i (by simp[hi]))];simp[h]
  rw[this];by_cases h:id∈ids<;>simp[h]
 have rep:∀{d:oH} {v:Value} {l:Option Loc},Rep K.toCon gB w l d v->Rep K.toCon (CQ g gB ids) w l d v:=λhr=>SA hmn hr;refine⟨hI.fr,hI.sS,λi j b hi hj=> ?_,λid cs hc=> ?_,λid hid=> ?_,λid b hb=> ?_,hI.owW,hI.glob,hI.kp,λid b cs ho hb hc hd=> ?_,λj x h1 h2 hx=>by
  simp only[CQ] at hx;split at hx
  ·exact hold j x h1 h2 hx
  exact hI.old j x h1 h2 hx⟩
 ·simp only[CQ] at hi hj;split at hi
  ·rename_i h1;split at hj
   ·exact hinj i j b hi hj
   obtain⟨b',k1,k2,_⟩:=hap i h1;rw[hi] at k1;cases k1;exact absurd hj (k2.2.1 j)
  split at hj
  ·rename_i h2;obtain⟨b',k1,k2,_⟩:=hap j h2;rw[hj] at k1;cases k1;exact absurd hi (k2.2.1 i)
  exact hI.inj i j b hi hj
 ·rw[hgetB] at hc;split at hc
  ·rename_i h;cases hc;obtain⟨b,k1,k2,_⟩:=hap id h;exact⟨b,by simp only[CQ,if_pos h];exact k1,k2.1,λi d hi=>by simp at hi⟩
  rename_i h;obtain⟨b,k1,k2,k3⟩:=hI.bxok id cs hc;refine⟨b,by simp only[CQ,if_neg h];exact k1,k2,λi d hi=> ?_⟩;obtain⟨⟨x,h4,h5⟩,h6⟩:=k3 i d hi;exact⟨⟨x,h4,rep h5⟩,h6⟩
 ·rw[hgetB] at hid;split at hid
  ·cases hid
  rename_i h;simp only[CQ,if_neg h];exact hI.nobx id hid
 ·simp only[CQ] at hb;split at hb
  ·rename_i h;obtain⟨b',k1,k2,k3,k4⟩:=hap id h;rw[hb] at k1;cases k1;exact⟨k3,k4,k2.2.2⟩
  exact hI.muW id b hb
 simp only[CQ] at hb;split at hb
 ·rename_i h;have:=hlt id h;omega
 rename_i h;rw[hgetB,if_neg h] at hc;exact hI.obok id b cs ho hb hc hd
set_option maxHeartbeats 1000000 in
theorem QE{f:Nat}{t:Arg}{ks ps:List Nat}{as bd:av}{G:Operand}{qs:Array Tmp}{p q:Code}{Q:aB->ASt->Prop}{m:Nat}
  (hg:rk K G t=true) (hps:qs.toList=ps) (hlt:∀x∈ps,x<n) (hnd:ps.Nodup) (hV:uu K f (K.E.I f))
  (hA:∀(l m':Nat) (base:aZ) (st:ASt) (a:Act) (w:World) (Q:aB->ASt->Prop),awp K.E as Q st->Rel K base n st a w->p.wpIn (WF (some l)) m' K.P (Ii K base n Q) a w)
  (hB:∀(l m':Nat) (base:aZ) (st:ASt) (a:Act) (w:World) (Q:aB->ASt->Prop),awp K.E bd Q st->Rel K base n st a w->q.wpIn (WF (some l)) m' K.P (Ii K base n Q) a w)
  (h:awp K.E (.range f t ks ps as bd) Q st) (hR:Rel K base n st a w):(Code.rangeFunc G qs p q).wpIn (WF none) m K.P (Ii K base n Q) a w:=by
 simp only[awp] at h;obtain⟨x,y,hx,hpure,hpre,hpk,N,I,hI0,hIb,hIdone,hIround⟩:=h;obtain⟨g,hI,hS,hO,hd,hsz⟩:=hR;have hrep:=o6 hI hS hg;rw[hx] at hrep;simp only[Rep] at hrep;obtain⟨va,vc,hev,hr1,hr2⟩:=hrep;have hpx:au x=true:=(bE x).2 λc hc=>(bE _).1 hpure.1 c (by simp[hc]);obtain⟨lv,hlv⟩:∃lv,lv=(K.E.I f).lv:=⟨_,rfl⟩;obtain⟨ids,hids⟩:∃ids,ids=bI lv y:=⟨_,rfl⟩;have hyr:=z1x hI hpure hr2;rw[<-hlv] at hyr hpure hpre hI0 hIdone hIround;rw[<-hids] at hI0 hIdone hIround;obtain⟨_,hlive,_,hksI,hbxI⟩:=hpure;rw[<-hids] at hksI hbxI;obtain⟨stH,hstH⟩:∃stH,stH=dc ids st:=⟨_,rfl⟩;rw[<-hstH] at hksI hIround;have horgH:stH.org=st.org:=by rw[hstH];rfl
 obtain⟨B0,hB0⟩:∃B0,B0=lvB g lv y:=⟨_,rfl⟩;rw[<-hB0] at hyr;have hB0s:∀i b,B0 i=some b->∃id∈ids,g.mu id=some b:=λi b hb=>by rw[hB0] at hb;obtain⟨k1,id,k2,k3⟩:=IM hb;exact⟨id,by rw[hids];exact NB.2 ⟨i,k1,k2⟩,k3⟩
 obtain⟨g0,hg0⟩:∃g0,g0=FM g ids:=⟨_,rfl⟩;have hI00:Inv K base g0 w (ASt.getB {org:=stH.org,env:=dz stH ks,box:=rmB ids st.box}):=by rw[hg0];exact Vg hI hbxI
 have hS00:∀s∈ks,Rep K.toCon g0 w (some (.slot s)) (stH.get s) (a.tmps.getD s undef):=λs hs=>by
  rw[hg0];rcases Zb ids st s with h1|h1
  ·rw[hstH,h1];simp[Rep]
  rcases hksI s hs with h2|h2
  ·rw[hstH,h1];exact OZ h2 (hS s)
  rw[h2.2];simp[Rep]
 have hOH:kS K base stH a:=λs d hs=>hO s d (by rw[<-horgH];exact hs);refine wpIn_rangeFunc λfn _=> ?_;rw[z9c];obtain⟨D,hD⟩:∃D,D=w.heap.size:=⟨_,rfl⟩;obtain⟨l,hl⟩:∃l,l=D+1:=⟨_,rfl⟩;obtain⟨rec,hrec⟩:∃rec,rec=recL fn a qs p q D:=⟨_,rfl⟩;obtain⟨W1,hW1⟩:∃W1,(w.alloc (.deferred (some []))).alloc (.loop (rec .ready none))=W1:=⟨_,rfl⟩;have hs1:(w.alloc (.deferred (some []))).heap.size=l:=by simp[hl,hD]
 have hsW:W1.heap.size=l+1:=by rw[<-hW1];simp[hl,hD]
 have hlW:W1.heap[l]? =some (.loop (rec .ready none)):=by rw[<-hW1,<-hs1];exact World.alloc_heap_new _ _
 have hDW:W1.heap[D]? =some (.deferred (some [])):=by rw[<-hW1,hD];exact(RowKit.Below.heap_alloc _ _ _ (by simp)).trans (World.alloc_heap_new w _)
 obtain⟨g1,hg1⟩:∃g1,g1=uW (uW g0 D 0 none) l 0 none:=⟨_,rfl⟩;have hI1:Inv K base g1 W1 (ASt.getB {org:=stH.org,env:=dz stH ks,box:=rmB ids st.box}):=by have k1:=xk hI00 (.deferred (some [])) 0 none;have k2:=xk k1 (.loop (rec .ready none)) 0 none;rw[hs1,<-hD,hW1,<-hg1] at k2;exact k2
 have hx1:Ext g0 w g1 W1:=by
  have k1:=xk hI00 (.deferred (some [])) 0 none;have e1:=vm hI00 (.deferred (some [])) 0 none;have e2:=vm k1 (.loop (rec .ready none)) 0 none;rw[hs1,<-hD,hW1,<-hg1] at e2;rw[<-hD] at e1;exact⟨e1.keeps.trans e2.keeps,λid b hb=>e2.mu id b (e1.mu id b hb),λm b hb=>by
   obtain⟨a1,a2,a3⟩:=e1.own m b hb;obtain⟨b1,b2,b3⟩:=e2.own m b a1;exact⟨b1,b2.trans a2,b3.trans a3⟩⟩
 have hS1:∀s∈ks,Rep K.toCon g1 W1 (some (.slot s)) (stH.get s) (a.tmps.getD s undef):=λs hs=>hx1.rep (hS00 s hs);have hfr1:base.w0.heap.size<=D:=by rw[hD];exact hI.fr.size
 have apD:cr g1 D:=by
  refine⟨by rw[hg1];simp[uW],λid hi=> ?_,by rw[hg1];simp[uW]⟩;have:g0.mu id=some D:=by rw[hg1] at hi;exact hi
  have:=(hI00.muW id D this).2.1;omega
 have apl:cr g1 l:=by
  refine⟨by rw[hg1];simp[uW],λid hi=> ?_,by rw[hg1];simp[uW]⟩;have:g0.mu id=some l:=by rw[hg1] at hi;exact hi
  have:=(hI00.muW id l this).2.1;omega
 -- what holds between the rounds
 let J:Nat->(Nat->Prop)->World->Prop:=λi O A=>∃bx gA,I i bx∧PS K base stH ks a l D g1.S w W1 bx O gA A∧A.heap[l]? =some (.loop (rec .ready none))
 let Jx:(Nat->Prop)->World->Prop:=λO A=>∃bx gA e jc,(e=aB.ret∧jc=Code.ret∨∃id,e= .exit id∧jc= .exit id)∧kV st ks ids Q e bx∧PS K base stH ks a l D g1.S w W1 bx O gA A∧A.heap[l]? =some (.loop (rec .done (some jc)))
 have outer_stab:∀bx gA (O O':Nat->Prop) A B,PS K base stH ks a l D g1.S w W1 bx O gA A->Fr A.heap.size O A B->(∀b,O' b->(O b∨A.heap.size<=b)∧b<B.heap.size)->
   ∃gB,PS K base stH ks a l D g1.S w W1 bx O' gB B∧B.heap[l]? =A.heap[l]? :=λbx gA O O' A B ho hfr hO'=>by
  have hap:∀b,O b->cr gA b∧(base.w0.heap.size<=b∨base.W b):=λb hb=>⟨(ho.apart b (.inl hb)).1,(ho.apart b (.inl hb)).2.1⟩;have hlA:=(ho.apart l (.inr (.inl rfl))).2.2;have hDA:=(ho.apart D (.inr (.inr rfl))).2.2
  -- what the iterator laid is apart: its cells are stable nowhere
  let gB:Gh:={gA with S:=λb=>if b<A.heap.size then gA.S b else 0}
  have hkA:aP gA.S A gB.S A:=λb i v hi hc=>by have:=World.block_lt_of_cell? A ⟨b,i,none⟩ hc;exact⟨by simp only[gB,if_pos this];exact hi,hc⟩
  have repA:∀{d:oH} {v:Value} {lo:Option Loc},Rep K.toCon gA A lo d v->Rep K.toCon gB A lo d v:=λ{d v lo} hr=>Rep.mono (g:=gA) (g':=gB) hkA d v lo lo (λ_ _ _ hb=>hb) (λm hm=>⟨m,hm,λb hb=>⟨hb,by simp only[gB,if_pos (ho.inv.owW b m hb).2],rfl⟩⟩) hr;have hIA:Inv K base gB A (ASt.getB {org:=stH.org,env:=dz stH ks,box:=bx}):=by
   refine⟨ho.inv.fr,λb hb hw=> ?_,ho.inv.inj,λid cs hc=> ?_,ho.inv.nobx,ho.inv.muW,ho.inv.owW,λn hn=>am.mono hkA _ _ _ (ho.inv.glob n hn),ho.inv.kp.trans hkA,ho.inv.obok,ho.inv.old⟩
   ·simp only[gB,if_pos (Nat.lt_of_lt_of_le hb ho.inv.fr.size)];exact ho.inv.sS b hb hw
   obtain⟨b,k1,k2,k3⟩:=ho.inv.bxok id cs hc;refine⟨b,k1,by simp only[gB,if_pos (ho.inv.muW id b k1).2.1];exact k2,λi d hi=> ?_⟩;obtain⟨⟨v,hv,hr⟩,hz⟩:=k3 i d hi;exact⟨⟨v,hv,repA hr⟩,hz⟩
  have hapB:∀b,cr gA b->cr gB b:=λb hb=>⟨by simp only[gB];split;exact hb.1;rfl,hb.2.1,hb.2.2⟩;have hap':∀b,O b->cr gB b∧(base.w0.heap.size<=b∨base.W b):=λb hb=>⟨hapB b (hap b hb).1,(hap b hb).2⟩;have new:∀b,A.heap.size<=b->cr gB b:=λb hb=>by
   refine⟨by simp only[gB,if_neg (Nat.not_lt.2 hb)],λid hi=> ?_,?_⟩
   ·have:=(ho.inv.muW id b hi).2.1;omega
   cases hlo:gA.ow b with
   |none=>rfl
   |some lo=>have:=(ho.inv.owW b lo hlo).2;omega
  have hlt':∀b lo,gB.ow b=some lo->b<A.heap.size:=λb lo hb=>(ho.inv.owW b lo hb).2;refine⟨gB,⟨jC hIA hfr hap',λs=>K7 hfr (λb hb=>(hap' b hb).1) hlt' (repA (ho.slots s)),λb hb=> ?_,λhb=> ?_,λhb=> ?_,?_,?_⟩,?_⟩
  ·rcases hb with hb|rfl|rfl
   ·obtain⟨h1,h2⟩:=hO' b hb;rcases h1 with h1|h1
    ·exact⟨hapB b (ho.apart b (.inl h1)).1,(ho.apart b (.inl h1)).2.1,h2⟩
    exact⟨new b h1,.inl (Nat.le_trans ho.inv.fr.size h1),h2⟩
   ·exact⟨hapB _ (ho.apart _ (.inr (.inl rfl))).1,(ho.apart _ (.inr (.inl rfl))).2.1,Nat.lt_of_lt_of_le hlA hfr.size⟩
   exact⟨hapB _ (ho.apart _ (.inr (.inr rfl))).1,(ho.apart _ (.inr (.inr rfl))).2.1,Nat.lt_of_lt_of_le hDA hfr.size⟩
  ·rcases(hO' l hb).1 with h1|h1
   ·exact ho.noL h1
   omega
  ·rcases(hO' D hb).1 with h1|h1
   ·exact ho.noD h1
   omega
  ·rw[hfr.block D hDA ho.noD];exact ho.blkD
  ·exact(ho.kp.trans hkA).trans (cV hfr λb hb=>(hap' b hb).1)
  exact hfr.block l hlA ho.noL
 have hB0lt:∀i b,B0 i=some b->b<w.heap.size:=λi b hb=>by obtain⟨id,_,hm⟩:=hB0s i b hb;exact(hI.muW id b hm).2.1
 have hB0ap:∀i b,B0 i=some b->cr g1 b:=λi b hb=>by
  obtain⟨id,hid,hm⟩:=hB0s i b hb;have hlt:=hB0lt i b hb;have hbl:b≠l:=by omega
  have hbD:b≠D:=by omega
  have hSb:g.S b=0:=by
   have hne:st.getB id≠none:=λe=>by have:=hI.nobx id e;rw[hm] at this;cases this
   cases hc:st.getB id with
   |none=>exact absurd hc hne
   |some cs=>obtain⟨b',k1,k2,_⟩:=hI.bxok id cs hc;rw[hm] at k1;cases k1;exact k2
  have ow0:=(hI.muW id b hm).2.2;refine⟨by rw[hg1,hg0];simp[uW,FM,hbl,hbD,hSb],λjd hj=> ?_,by rw[hg1,hg0];simp[uW,FM,hbl,hbD,ow0]⟩;have hj':(FM g ids).mu jd=some b:=by rw[hg1,hg0] at hj;exact hj
  simp only[FM] at hj';split at hj'
  ·cases hj'
  rename_i hn;have:=hI.inj jd id b hj' hm;exact hn (this▸hid)
 have start:J 0 (λb=>∃i,B0 i=some b) W1:=by
  refine⟨rmB ids st.box,g1,hI0,⟨?_,?_,λb hb=> ?_,λh=> ?_,λh=> ?_,hDW,aP.refl _ _⟩,hlW⟩
  ·exact hI1
  ·refine JH (λs hs=> ?_) (λs d hs=> ?_)
   ·exact Rep.dem none (hS1 s hs)
   exact ap.mono (uU hI1) d _ (hOH s d hs)
  ·rcases hb with⟨i,hb⟩|rfl|rfl
   ·obtain⟨id,hid,hm⟩:=hB0s i b hb;exact⟨hB0ap i b hb,(hI.muW id b hm).1,by have:=hB0lt i b hb;omega⟩
   ·exact⟨apl,.inl (by omega),by omega⟩
   exact⟨apD,.inl (by omega),by omega⟩
  ·obtain⟨i,hi⟩:=h;have:=hB0lt i l hi;omega
  obtain⟨i,hi⟩:=h;have:=hB0lt i D hi;omega
 have rounds:Ny K g1.S ((K.E.I f).el x (epY st.getB lv y)) l J Jx N (λb=>∃i,B0 i=some b) W1:=by
  refine⟨start,λi O A ⟨bx,gA,hi,_⟩=>hIb i bx hi,λi O O' A B hj hfr hO'=> ?_,λO O' A B hj hfr hO'=> ?_,λi O A xs q' hj hel=> ?_⟩
  ·obtain⟨bx,gA,hi,ho,hlA⟩:=hj;obtain⟨gB,h1,h2⟩:=outer_stab bx gA O O' A B ho hfr hO';exact⟨bx,gB,hi,h1,by rw[h2];exact hlA⟩
  ·obtain⟨bx,gA,e,jc,he,hq,ho,hlA⟩:=hj;obtain⟨gB,h1,h2⟩:=outer_stab bx gA O O' A B ho hfr hO';exact⟨bx,gB,e,jc,he,hq,h1,by rw[h2];exact hlA⟩
  obtain⟨bx,gA,hi,ho,hlA⟩:=hj;obtain⟨hlen,hmf,hw⟩:=hIround i bx xs hi hel;have hal:=ho.apart l (.inr (.inl rfl));have haD:=ho.apart D (.inr (.inr rfl));have hqs:(nE xs).toArray.size=qs.size:=by simp only[List.size_toArray,LA,hlen,<-hps,Array.length_toList]
  have hy:=run_yield (P:=K.P) (args:=(nE xs).toArray) hlA (by rw[hrec];exact hqs);rw[hrec] at hy;refine⟨_,_,_,_,hy,roundIn_of_wpIn (n:=q') trivial ?_⟩;have hR0:=VC (xs:=xs) (qs:=qs) hps hnd hlt hsz hlen hmf (by rw[horgH];exact hpk) hOH ho;refine wpIn_mono (hA l q' _ _ _ A _ (hw (λs=>a.tmps.getD s undef)) hR0) ?_;intro e a1 w1 hl1;cases e with
  |normal=>
   simp only[Ii] at hl1;obtain⟨base1,hE1,st1,hR1,hq1⟩:=hl1;simp only[cc] at hq1;obtain⟨gb,hIb1,hSb,hOb,hdb,hszb⟩:=hR1;have hIr:=hE1.inv _ _ _ hIb1;have hl1':w1.heap[l]? =some (.loop (rec .ready none)):=by rw[Dl hIr hal.2.2 hal.1];exact hlA
   have hlt1:l<w1.heap.size:=Nat.lt_of_lt_of_le hal.2.2 hIr.fr.size;have ap1:∀b,O b∨b=l∨b=D->cr gb b∧b<w1.heap.size:=λb hb=>⟨FT hIr (ho.apart b hb).2.2 (ho.apart b hb).1,Nat.lt_of_lt_of_le (ho.apart b hb).2.2 hIr.fr.size⟩;simp only[Exit.then];refine⟨_,run_beginRound hl1' (by rw[hrec];rfl),?_⟩;obtain⟨w2,hw2⟩:∃w2,w2=w1.putObj l (.loop {rec .ready none with state:= .busy}):=⟨_,rfl⟩;rw[<-hw2];have hf2:Fr w1.heap.size (λb=>b=l) w1 w2:=by rw[hw2];exact da _ _ _
   have hz2:w2.heap.size=w1.heap.size:=by rw[hw2];simp[World.putObj]
   have hl2:w2.heap[l]? =some (.loop {rec .ready none with state:= .busy}):=by rw[hw2];exact World.putObj_heap_same hlt1
   have hI1b:Inv K base gb w1 st1.getB:=Wv ho.inv hIr;have hl0:base.w0.heap.size<=l∨base.W l:= .inl (by omega);have hI2:Inv K base gb w2 st1.getB:=jC hI1b hf2 λb hb=>by subst hb;exact⟨(ap1 _ (.inr (.inl rfl))).1,hl0⟩
   have hlo1:∀b lo,gb.ow b=some lo->b<w1.heap.size:=λb lo hb=>(hIb1.owW b lo hb).2;have hfa2:∀b,b=l->cr gb b:=λb hb=>by subst hb;exact(ap1 _ (.inr (.inl rfl))).1
   have hR2:Rel K ⟨w2,Wr gb,gb.S,base1.dl,base.mu0⟩ n st1 a1 w2:=by
    refine⟨gb,TX hI2,λs=>K7 hf2 hfa2 hlo1 (hSb s),λs d hs=> ?_,hdb,hszb⟩;refine ap.mono ?_ d _ (hOb s d hs);refine(Gq (dl:=base1.dl) hIb1).trans λb i v hi' hc=> ?_;have hb:b<w1.heap.size:=World.block_lt_of_cell? w1 ⟨b,i,none⟩ hc;unfold aZ.S at hi'⊢;split at hi'
    ·rename_i h;have hbl:b≠l:=λe=>by
      subst e;have:gb.S b=0:=(ap1 _ (.inr (.inl rfl))).1.1;simp only at hi';omega
     refine⟨?_,?_⟩
     ·rw[if_pos ⟨by rw[hz2];exact h.1,h.2⟩];exact hi'
     rw[World.cell?_of_block (w:=w1) (a:=⟨b,i,none⟩) (hf2.block b hb hbl)];exact hc
    omega
   refine wpIn_mono (hB l q' _ _ _ w2 _ hq1 hR2) ?_
   -- behind the body
   have fin:∀(jump:Option Code) (a3:Act) (w3:World) (base3:aZ) (st3:ASt),fY K ⟨w2,Wr gb,gb.S,base1.dl,base.mu0⟩ base3->Rel K base3 n st3 a3 w3->fk stH ks (λs=>a.tmps.getD s undef) st3->
     ∃g3 w4,(Instr.endRound l jump).run K.P w3= .ok (.bool jump.isNone) w4∧PS K base stH ks a l D g1.S w W1 st3.box O g3 w4∧w4.heap[l]? =some (.loop (rec (if jump.isNone then .ready else .done) jump))∧
      aP g1.S W1 g1.S w4∧(∀b,O b->w4.heap[b]? =A.heap[b]?)∧A.heap.size<=w4.heap.size∧w4.os=A.os∧w4.tape=A.tape∧w4.output=A.output:=λjump a3 w3 base3 st3 hE3 hR3 hend=>by
    obtain⟨g3,hI3,hS3,hO3,hd3,hsz3⟩:=hR3;have hIr3:=hE3.inv _ _ _ hI3;have hB3:=Wv hI2 hIr3;have ap2:∀b,O b∨b=l∨b=D->cr g3 b∧b<w3.heap.size∧w3.heap[b]? =w2.heap[b]? :=λb hb=>by obtain⟨k1,k2⟩:=ap1 b hb;rw[<-hz2] at k2;exact⟨FT hIr3 k2 k1,Nat.lt_of_lt_of_le k2 hIr3.fr.size,Dl hIr3 k2 k1⟩
    have hl3:w3.heap[l]? =some (.loop {rec .ready none with state:= .busy}):=by rw[(ap2 l (.inr (.inl rfl))).2.2];exact hl2
    have hlt3:=(ap2 l (.inr (.inl rfl))).2.1;obtain⟨w4,hw4⟩:∃w4,w4=w3.putObj l (.loop (rec (if jump.isNone then .ready else .done) jump)):=⟨_,rfl⟩;have hrun:(Instr.endRound l jump).run K.P w3= .ok (.bool jump.isNone) w4:=by
     have:=run_endRound (P:=K.P) jump hl3;rw[hw4,hrec] at*
     exact this
    have hf4:Fr w3.heap.size (λb=>b=l) w3 w4:=by rw[hw4];exact da _ _ _
    have hfa4:∀b,b=l->cr g3 b:=λb hb=>by subst hb;exact(ap2 _ (.inr (.inl rfl))).1
    have hI4:Inv K base g3 w4 st3.getB:=jC hB3 hf4 λb hb=>by subst hb;exact⟨(ap2 _ (.inr (.inl rfl))).1,hl0⟩
    have hlo3:∀b lo,g3.ow b=some lo->b<w3.heap.size:=λb lo hb=>(hI3.owW b lo hb).2;have blk:∀b,O b∨b=D->b≠l->w4.heap[b]? =A.heap[b]? :=λb hb hne=>by have hb':O b∨b=l∨b=D:=hb.imp id .inr;rw[hf4.block b (ap2 b hb').2.1 hne,(ap2 b hb').2.2,hf2.block b (ap1 b hb').2 hne,Dl hIr (ho.apart b hb').2.2 (ho.apart b hb').1]
    have hOl:∀b,O b->b≠l:=λb hb e=>ho.noL (e▸hb);have hDl:D≠l:=by omega
    have hkp:aP g1.S W1 g3.S w4:=(((ho.kp.trans hIr.kp).trans (cV hf2 hfa2)).trans hIr3.kp).trans (cV hf4 hfa4);refine⟨g3,w4,hrun,⟨hI4,?_,λb hb=> ?_,ho.noL,ho.noD,?_,hkp⟩,?_,λb i v hi' hc=>⟨hi',(hkp b i v hi' hc).2⟩,λb hb=>blk b (.inl hb) (hOl b hb),?_,?_,?_,?_⟩
    ·refine JH (λs hs=> ?_) (λs d hs=>ap.mono (uU hI4) d _ (hOH s d hs));obtain⟨h1,h2⟩:=hend s hs;have hv:=hO3 s _ h2;simp only[ap] at hv;have:=K7 hf4 hfa4 hlo3 (hS3 s);rw[h1,hv] at this;exact EJ this
    ·exact⟨(ap2 b hb).1,(ho.apart b hb).2.1,Nat.lt_of_lt_of_le (ap2 b hb).2.1 hf4.size⟩
    ·rw[blk D (.inr rfl) hDl];exact ho.blkD
    ·rw[hw4];exact World.putObj_heap_same hlt3
    ·exact Nat.le_trans hIr.fr.size (Nat.le_trans hf2.size (Nat.le_trans hIr3.fr.size hf4.size))
    ·rw[hf4.os,hIr3.fr.os,hf2.os,hIr.fr.os]
    ·rw[hf4.tape,hIr3.fr.tape,hf2.tape,hIr.fr.tape]
    rw[hf4.output,hIr3.fr.output,hf2.output,hIr.fr.output]
   intro e a3 w3 hl3;cases e with
   |normal=>simp only[Ii] at hl3;obtain⟨base3,hE3,st3,hR3,hq3⟩:=hl3;simp only[Tp] at hq3;obtain⟨g3,w4,k1,k2,k3,k4,k5,k6,k7,k8,k9⟩:=fin none a3 w3 base3 st3 hE3 hR3 hq3.1;exact⟨_,w4,k1,k4,k5,k6,k7,k8,k9,.inl ⟨rfl,st3.box,g3,hq3.2,k2,k3⟩⟩
   |exit id=>simp only[Ii] at hl3;obtain⟨base3,hE3,st3,hR3,hq3⟩:=hl3;simp only[Tp] at hq3;obtain⟨g3,w4,k1,k2,k3,k4,k5,k6,k7,k8,k9⟩:=fin (some (.exit id)) a3 w3 base3 st3 hE3 hR3 hq3.1;exact⟨_,w4,k1,k4,k5,k6,k7,k8,k9,.inr ⟨rfl,st3.box,g3,.exit id,_,.inr ⟨id,rfl,rfl⟩,hq3.2,k2,k3⟩⟩
   |ret=>simp only[Ii] at hl3;obtain⟨base3,hE3,st3,hR3,hq3⟩:=hl3;simp only[Tp] at hq3;obtain⟨g3,w4,k1,k2,k3,k4,k5,k6,k7,k8,k9⟩:=fin (some .ret) a3 w3 base3 st3 hE3 hR3 hq3.1;exact⟨_,w4,k1,k4,k5,k6,k7,k8,k9,.inr ⟨rfl,st3.box,g3,.ret,_,.inl ⟨rfl,rfl⟩,hq3.2,k2,k3⟩⟩
   |goto id=>exact hl3.elim
   |panic ch=>exact hl3.elim
   |outgrown=>exact hl3.elim
  |exit id=>simp only[Ii,cc] at hl1;obtain⟨_,_,_,_,h⟩:=hl1;exact h.elim
  |ret=>simp only[Ii,cc] at hl1;obtain⟨_,_,_,_,h⟩:=hl1;exact h.elim
  |goto id=>exact hl1.elim
  |panic ch=>exact hl1.elim
  |outgrown=>exact hl1.elim
 have hx0:aP g.S w g1.S W1:=λb i v hi hc=>hx1.keeps b i v (by rw[hg0];exact hi) hc;have hyr1:z6m K g1.S W1 lv B0 (epY st.getB lv y) vc.toList:=hyr.keep hx0 (λi b hb=>(hB0ap i b hb).1) (by omega) (λi b hb=>by
  have:=hB0lt i b hb;rw[<-hW1];exact(RowKit.Below.heap_alloc _ _ _ (by simp;omega)).trans (RowKit.Below.heap_alloc _ _ _ this))
 have hcall:=hV.2 g1.S W1 x (epY st.getB lv y) va.toList vc.toList B0 hI1.glob (ag.mono hx0 x _ (an.pure x _ hpx hr1)) (by rw[<-hlv];exact hyr1) hpre l J Jx N rounds;rw[Tj] at hcall;have fin:∀(bx:List (Nat×Option (List oH))) (gB:Gh) (O:Nat->Prop) (B:World) (s:LoopState) (pe:Option Code),PS K base stH ks a l D g1.S w W1 bx O gB B->(∀b,(∃i,B0 i=some b)->O b)->(∀id∈ids,(lk bx id).join=none)->B.heap[l]? =some (.loop (rec s pe))->s≠ .busy->
   ∃w4,(Instr.endLoop l).run K.P B= .ok pe w4∧∃base',fY K base base'∧Rel K base' n {org:=st.org,env:=dz st ks,box:=bkB ids bx} {tmps:=a.tmps,defers:=[z2T D]++a.defers} w4:=λbx gB O B s pe ho hOO hnone hlB hs=>by
  have hrun:=run_endLoop (P:=K.P) hlB (by rw[hrec];exact hs);obtain⟨w4,hw4⟩:∃w4,w4=B.putObj l (.loop {rec s pe with state:= .exhausted}):=⟨_,rfl⟩;rw[<-hw4] at hrun;have hal:=ho.apart l (.inr (.inl rfl));have haD:=ho.apart D (.inr (.inr rfl));have hf4:Fr B.heap.size (λb=>b=l) B w4:=by rw[hw4];exact da _ _ _
  have hfa4:∀b,b=l->cr gB b:=λb hb=>by subst hb;exact hal.1
  have hI4:=jC ho.inv hf4 λb hb=>by subst hb;exact⟨hal.1,hal.2.1⟩
  have hlo:∀b lo,gB.ow b=some lo->b<B.heap.size:=λb lo hb=>(ho.inv.owW b lo hb).2;have hpe:(rec s pe).pending=pe:=by rw[hrec];rfl
  rw[hpe] at hrun;have hidl:∀id∈ids,∃i∈lv,y[i]? =some (.bp id 0):=λid hid=>by rw[hids] at hid;exact NB.1 hid
  have hlt6:∀id∈ids,id<1000000:=λid hid=>by obtain⟨i,hi,e⟩:=hidl id hid;obtain⟨id',cs,e1,e2,_⟩:=hlive i hi;rw[e] at e1;cases e1;exact e2
  have hB0id:∀id∈ids,∃i b,B0 i=some b∧g.mu id=some b:=λid hid=>by obtain⟨i,hi,e⟩:=hidl id hid;obtain⟨id',cs,e1,_,e3,_⟩:=hlive i hi;rw[e] at e1;cases e1;obtain⟨b,hb,_⟩:=hI.bxok id cs e3;exact⟨i,b,by rw[hB0];simp only[lvB,if_pos hi,e];exact hb,hb⟩
  have hIE:=z1g (g:=g) (o':=st.org) (e':=dz st ks) hI4 hnone hlt6 hI.inj hI.old λid hid=>by obtain⟨i,b,h1,h2⟩:=hB0id id hid;have ha:=ho.apart b (.inl (hOO b ⟨i,h1⟩));exact⟨b,h2,ha.1,ha.2.1,Nat.lt_of_lt_of_le ha.2.2 hf4.size⟩
  have hmn:∀id∈ids,gB.mu id=none:=λid hid=>hI4.nobx id (hnone id hid);have apE:∀b,cr gB b->(∀i,B0 i≠some b)->cr (CQ g gB ids) b:=λb hb hne=>⟨hb.1,λid=>by
   simp only[CQ];split
   ·rename_i hid;intro hm;obtain⟨i,b',h1,h2⟩:=hB0id id hid;rw[hm] at h2;cases h2;exact hne i h1
   exact hb.2.1 id,hb.2.2⟩
  have hkE:aP g.S w (CQ g gB ids).S w4:=λb i v hi hc=>((hx0.trans ho.kp).trans (cV hf4 hfa4)) b i v hi hc;refine⟨w4,hrun,⟨w4,Wr (CQ g gB ids),(CQ g gB ids).S,[D].map z2T++base.dl,base.mu0⟩,Tr hIE [D] (by simp) (λx hx=> ?_),CQ g gB ids,TX hIE,?_,λs d hs=>ap.mono (Gq hIE) d _ (hO s d hs),?_,hsz⟩
  ·simp only[List.mem_singleton] at hx;subst hx;refine⟨hfr1,Nat.lt_of_lt_of_le haD.2.2 hf4.size,apE _ haD.1 (λi hi=> ?_),?_⟩
   ·have:=hB0lt i _ hi;omega
   rw[hf4.block _ haD.2.2 (by omega)];exact ho.blkD
  ·refine JH (λs hs=> ?_) (λs d hs=>ap.mono (uU hIE) d _ (hO s d hs));rcases hksI s hs with h2|h2
   ·have hv:=ho.slots s;rw[PL,if_pos hs] at hv;rw[hstH,Ur h2] at hv;exact SA hmn (EJ (K7 hf4 hfa4 hlo hv))
   have hr:=Rep.dem none (hS s);refine Rep.mono (g:=g) (g':=CQ g gB ids) hkE _ _ none none (λid hid b hb=> ?_) (λ_ h=>by cases h) hr;have hid':id∈aF (st.get s):=by
    revert hid
    cases st.get s with
    |sl m _ _ _=>cases m<;>exact λh=>h
    |pv o _ _ _=>cases o<;>exact λh=>h
    |otup=>exact λh=>h
    |oagg=>intro h;simpa[Abs.dem,aF,pT] using h
    |_=>exact λh=>h
   simp only[CQ,if_pos (h2.1 id hid')];exact hb
  simp only[hd,List.map_cons,List.map_nil]
 refine⟨l,[z2T D],W1,{target:= .fn (.func (K.nu f)) vc,args:=va++ #[.func (.yield l) #[] #[]]},W1,K.nu f,va++ #[.func (.yield l) #[] #[]]++vc,W1,?_,Tb hev (λ_=>rfl) l W1,λ_ _=>Mu _ _,?_,λh=>by simp[M9] at h,?_⟩
 ·have:=run_enterLoop_outer (P:=K.P) (w:=w) fn a.tmps qs p q;rw[this,<-hW1,hrec,hl,hD];rfl
 ·have:=uH (P:=K.P) W1 hV.1 (va++ #[.func (.yield l) #[] #[]]++vc);simp only[invoke];exact this
 refine Lu.2 (hcall.mono λe B hq=> ?_);obtain⟨v,rfl,O,hOO,hq⟩:=hq;simp only[rangePost];rcases hq with⟨i,hel,bx,gB,hi,ho,hlB⟩|⟨bx,gB,e,jc,he,hq,ho,hlB⟩
 ·obtain⟨hq1,hq2⟩:=hIdone i bx hi hel;obtain⟨w4,hrun,base',hE,hR'⟩:=fin bx gB O B .ready none ho hOO hq1 hlB (by simp);exact⟨none,w4,hrun,base',hE,_,hR',hq2⟩
 obtain⟨hq1,hq2⟩:=hq;obtain⟨w4,hrun,base',hE,hR'⟩:=fin bx gB O B .done (some jc) ho hOO hq1 hlB (by simp);refine⟨some jc,w4,hrun,?_⟩;rcases he with⟨rfl,rfl⟩|⟨id,rfl,rfl⟩
 ·exact wpIn_ret ⟨base',hE,_,hR',hq2⟩
 exact wpIn_exit ⟨base',hE,_,hR',hq2⟩
end
end Go.Abs