/- Lemmas: an abstract interpreter, and what the functions compute. -/
import Derived.Test.YtepddcbbkhdfiaaGreatDoorD
import Derived.Scope
set_option linter.unusedSimpArgs false
set_option linter.unusedVariables false
set_option linter.unusedSectionVars false
section
namespace Go.Abs

inductive z0h where
 |keep (slots:List Nat)
 |drop (ids:List Nat)
 |freeze (ids:List Nat)
 |norm (ids:List Nat)
 |thaw (s id:Nat)
 |thawB (b i id:Nat)
 |unorg (s:Nat)
 |hideB (b i:Nat)
 |reB (b i:Nat) (o:Option Nat)
 |rebase (ks:List Nat)
 |cool (s id:Nat)
 |coolB (b i id:Nat)
 deriving Inhabited

mutual
def frm:z0a→Bool
 | .lit _=>true
 | .undef=>true
 | .bp _ _=>true
 | .bv _ _ _ _ _=>true
 | .agg cs=>z5W cs
 | .tup cs=>z5W cs
 | .fn _ x y=>z5W x&&z5W y
 | .sl _ _ _ cs=>cs.isEmpty
 | .ep cs=>cs.isEmpty
 | .otup _ _ _ _ _=>false
 | .oagg _ _ _ _ _ _=>false
def z5W:List z0a→Bool
 |[]=>true
 |c::cs=>frm c&&z5W cs
end
def z5p:z0a→Bool
 | .sl (.own _) _ _ cs=>z7a cs
 |v=>frm v

mutual
def z8F (ids:List Nat) (bx:Nat→List z0a):z0a→z0a
 | .bp id off=>if id∈ids then .ep ((bx id).drop off) else .bp id off
 | .bv id e off n c=>if id∈ids then .sl .plain (some false) n (((bx id).drop off).take (n*e)) else .bv id e off n c
 | .agg cs=> .agg (z6j ids bx cs)
 | .tup cs=> .tup (z6j ids bx cs)
 | .fn f x y=> .fn f (z6j ids bx x) (z6j ids bx y)
 | .otup _ _ _ _ _=> .undef
 | .oagg _ _ _ _ _ _=> .undef
 |v=>v
def z6j (ids:List Nat) (bx:Nat→List z0a):List z0a→List z0a
 |[]=>[]
 |c::cs=>z8F ids bx c::z6j ids bx cs
end

inductive z1c where
 |skip
 |region (keep:List Nat) (gs:List z0h) (xs:List z6a)
 |seq (a b:z1c)
 |cond (c:Arg) (a b:z1c)
 |block (id:Nat) (b:z1c)
 |loop (b:z1c)
 |scope (b:z1c)
 |exit (id:Nat)
 |ret
 |ghost (g:z0h) (c:z1c)
 |range (f:Nat) (t:Arg) (ks ps:List Nat) (assign body:z1c)
 |bad
 |alt (a b:z1c)
 |thawc (b:Option Nat) (i id:Nat) (c:z1c)
 |holdc (s t:Nat) (c:z1c)
 deriving Inhabited

inductive z5c where
 |normal
 |exit (id:Nat)
 |ret

def z2o (keep:List Nat) (st:ASt):ASt:={st with env:=keep.map fun s=>(s,st.get s)}
def z1m (o:Option Nat) (c:z0a):z0a:=match o with
 |none=>dem c
 |some e=>match c with| .sl .plain (some true) 0 []=> .sl (.own e) none 0 []|c=>c
def z1b:z0h→ASt→ASt
 | .keep l,st=>z2o l st
 | .drop ids,st=>{st with box:=st.box.filter fun p=> !ids.contains p.1}
 | .freeze ids,st=>
  let bx:=fun id=>(st.getB id).getD []
  {st with env:=st.env.map fun p=>(p.1,z8F ids bx p.2),box:=(st.box.filter fun p=> !ids.contains p.1).map fun p=>(p.1,p.2.map (z6j ids bx))}
 | .norm ids,st=>{st with box:=ids.map fun id=>(id,st.getB id)}
 | .thaw s id,st=>match st.get s with| .sl (.own e) _ n cs=>{st with env:=(s,.bv id e 0 n n)::st.env,box:=(id,some cs)::st.box}|_=>st
 | .thawB b i id,st=>match st.getB b with|some bs=>(match bs.getD i .undef with| .sl (.own e) _ n cs=>{st with box:=(b,some (bs.set i (.bv id e 0 n n)))::(id,some cs)::st.box}|_=>st)|none=>st
 | .unorg s,st=>{st with org:=st.org.filter fun p=>decide (p.1≠s),env:=(s,st.get s)::st.env}
 | .hideB b i,st=>match st.getB b with|some bs=>{st with box:=(b,some (bs.set i .undef))::st.box}|none=>st
 | .reB b i o,st=>match st.getB b with|some bs=>{st with box:=(b,some (bs.set i (z1m o (bs.getD i .undef))))::st.box}|none=>st
 | .rebase ks,st=>{st with org:=(ks.map fun s=>(s,st.get s))++st.org,env:=st.env.filter fun p=> !ks.contains p.1}
 | .cool s id,st=>match st.get s with| .bv _ e _ n _=>{st with env:=(s,.sl (.own e) none n (((st.getB id).getD []).take (n*e)))::st.env,box:=(id,none)::st.box}|_=>st
 | .coolB b i id,st=>match st.getB b with|some bs=>(match bs.getD i .undef with| .bv _ e _ n _=>{st with box:=(b,some (bs.set i (.sl (.own e) none n (((st.getB id).getD []).take (n*e)))))::(id,none)::st.box}|_=>st)|none=>st
def z65d (id:Nat) (cs:Option (List z0a)):z0a→Prop
 | .bv i e o n c=>i=id∧o=0∧n≤c∧∃l,cs=some l∧l.length=c*e∧z7a (l.take (n*e))=true
 |_=>False
def z9i:z0h→ASt→Prop
 | .keep _,_=>True
 | .drop ids,st=>(∀p∈st.env,∀id∈z3d p.2,id∉ids)∧(∀p∈st.box,p.1∈ids∨∀cs,p.2=some cs→∀id∈z6b cs,id∉ids)
 | .freeze ids,st=>∀id∈ids,∃cs,st.getB id=some cs∧z8b cs=true
 | .norm ids,st=>∀p∈st.box,p.1∈ids
 | .thaw s id,st=>id<400000∧st.getB id=none∧(match lk st.env s with|some (.sl (.own _) _ n cs)=>0<n∧z7a cs=true|_=>False)∧
  (∀p∈st.env,p.1=s∨z5p p.2=true)∧(∀p∈st.box,∀cs,p.2=some cs→∀c∈cs,z5p c=true)
 | .thawB b i id,st=>id<400000∧b<1000000∧st.getB id=none∧(match st.getB b with|some bs=>i<bs.length∧(match bs.getD i .undef with| .sl (.own _) _ n cs=>0<n∧z7a cs=true|_=>False)|none=>False)∧
  (∀p∈st.env,z5p p.2=true)∧(∀p∈st.box,∀cs,p.2=some cs→p.1=b∨∀c∈cs,z5p c=true)∧(∀bs,st.getB b=some bs→∀c∈bs.set i .undef,z5p c=true)
 | .unorg _,_=>True
 | .hideB b _,_=>b<1000000
 | .reB b _ _,_=>b<1000000
 | .rebase ks,st=>(∀s∈ks,z0b (st.get s)=true∧z5b (st.get s)=false)∧(∀p∈st.env,z5b p.2=false)∧(∀p∈st.box,p.1<1000000∧∀cs,p.2=some cs→∀c∈cs,z5b c=false)
 | .cool s id,st=>500000≤id∧id<1000000∧z65d id (st.getB id) (st.get s)∧(∀p∈st.env,p.1=s∨id∉z3d p.2)∧(∀p∈st.box,∀cs,p.2=some cs→p.1=id∨id∉z6b cs)
 | .coolB b i id,st=>500000≤id∧id<1000000∧b<500000∧(match st.getB b with|some bs=>i<bs.length∧z65d id (st.getB id) (bs.getD i .undef)∧id∉z6b (bs.set i .undef)|none=>False)∧
  (∀p∈st.env,id∉z3d p.2)∧(∀p∈st.box,∀cs,p.2=some cs→p.1=id∨p.1=b∨id∉z6b cs)
def z0h.cold:z0h→Bool| .thaw _ _=>false| .thawB _ _ _=>false| .rebase _=>false| .cool _ _=>false| .coolB _ _ _=>false|_=>true
def z63 (b:Option Nat) (i id:Nat) (st:ASt):Prop:=match b with
 |none=>z1n id∧st.getB id=none∧(match lk st.env i with|some (.sl (.own _) _ n cs)=>0<n∧z7a cs=true|_=>False)∧
  (∀p∈st.env,p.1=i∨z5p p.2=true)∧(∀p∈st.box,∀cs,p.2=some cs→∀c∈cs,z5p c=true)
 |some b=>z1n id∧b<1000000∧st.getB id=none∧(match st.getB b with|some bs=>i<bs.length∧(match bs.getD i .undef with| .sl (.own _) _ n cs=>0<n∧z7a cs=true|_=>False)|none=>False)∧
  (∀p∈st.env,z5p p.2=true)∧(∀p∈st.box,∀cs,p.2=some cs→p.1=b∨∀c∈cs,z5p c=true)∧(∀bs,st.getB b=some bs→∀c∈bs.set i .undef,z5p c=true)
def z1pd:Value→Option Nat
 | .slice (some a) _ _=>some a.block
 | .pointer (some a)=>some a.block
 |_=>none
def z9W (s t:Nat) (st:ASt) (V:Value):Prop:=∃id,lk st.org s=some (.lit V)∧(∃e o n c,st.get s= .bv id e o n c)∧(∃e o n c,st.get t= .bv id e o n c)
def z72 (s t:Nat) (V:Value) (st:ASt):ASt:={st with org:=(t,.lit V)::st.org.filter fun p=>decide (p.1≠s),env:=(s,st.get s)::(t,st.get t)::st.env}
def z40 (b:Option Nat) (i id m:Nat) (st:ASt):ASt:=match b with
 |none=>(match st.get i with| .sl (.own e) _ n cs=>{st with env:=(i,.bv id e 0 n (n+m))::st.env,box:=(id,some (cs++List.replicate (m*e) .undef))::st.box}|_=>st)
 |some b=>(match st.getB b with|some bs=>(match bs.getD i .undef with| .sl (.own e) _ n cs=>{st with box:=(b,some (bs.set i (.bv id e 0 n (n+m))))::(id,some (cs++List.replicate (m*e) .undef))::st.box}|_=>st)|none=>st)
def z6q:List z0h→ASt→ASt
 |[],st=>st
 |g::gs,st=>z6q gs (z1b g st)
def z6S:List z0h→ASt→Prop
 |[],_=>True
 |g::gs,st=>z9i g st∧z6S gs (z1b g st)

def z2l (f:ASt→Prop) (Q:z5c→ASt→Prop):z5c→ASt→Prop
 | .normal,st=>f st
 |e,st=>Q e st
def z8v (id:Nat) (Q:z5c→ASt→Prop):z5c→ASt→Prop
 | .exit id',st=>if id'=id then Q .normal st else Q (.exit id') st
 |e,st=>Q e st

def z9t (st:ASt) (ks:List Nat):List (Nat×z0a):=ks.map fun s=>(s,dem (st.get s))
def z3oa (st:ASt) (ks ps:List Nat) (V:Nat→Value) (xs:List z0a) (bx:List (Nat×Option (List z0a))):ASt:=
 {org:=(ks.map fun s=>(s,z0a.lit (V s)))++st.org,env:=ps.zip xs++z9t st ks,box:=bx}
def z5E (st:ASt) (ks:List Nat) (V:Nat→Value) (st':ASt):Prop:=∀s∈ks,st'.get s=dem (st.get s)∧lk st'.org s=some (.lit (V s))
def z5yc (st:ASt) (ks:List Nat) (V:Nat→Value) (J:List (Nat×Option (List z0a))→Prop) (Q:z5c→ASt→Prop):z5c→ASt→Prop
 | .normal,st'=>z5E st ks V st'∧J st'.box
 |e,st'=>z5E st ks V st'∧Q e {org:=st.org,env:=z9t st ks,box:=st'.box}

def epY (getB:Nat→Option (List z0a)) (lv:List Nat) (y:List z0a):List z0a:=y.zipIdx.map fun q=>if q.2∈lv then(match q.1 with| .bp id 0=> .ep ((getB id).getD [])|d=>d) else q.1
@[simp] theorem z7ja (getB:Nat→Option (List z0a)) (y:List z0a):epY getB [] y=y:=by
 simp[epY]
theorem z5fd (getB:Nat→Option (List z0a)) (lv:List Nat) (y:List z0a) (i:Nat):(epY getB lv y)[i]? =(y[i]?).map fun d=>if i∈lv then(match d with| .bp id 0=> .ep ((getB id).getD [])|d=>d) else d:=by
 rw[epY,List.getElem?_map,List.getElem?_zipIdx]
 cases y[i]? <;>simp
def z7i (lv:List Nat) (y:List z0a):List Nat:=lv.filterMap fun i:Nat=>match(y[i]? :Option z0a) with|some (.bp id 0)=>some id|_=>none
@[simp] theorem z1Y (y:List z0a):z7i [] y=[]:=rfl
def rmB (ids:List Nat) (bx:List (Nat×Option (List z0a))):List (Nat×Option (List z0a)):=bx.filter fun p=> !ids.contains p.1
@[simp] theorem z5pa (bx:List (Nat×Option (List z0a))):rmB [] bx=bx:=by
 simp[rmB]
def z7r (ids:List Nat) (st:ASt):ASt:={st with env:=st.env.map fun p=>(p.1,if(z3d p.2).any (ids.contains ·) then .undef else p.2)}
@[simp] theorem z5Z (st:ASt):z7r [] st=st:=by
 simp[z7r]
def bkB (ids:List Nat) (bx:List (Nat×Option (List z0a))):List (Nat×Option (List z0a)):=ids.map (fun id=>(id,some []))++bx
@[simp] theorem z4pa (bx:List (Nat×Option (List z0a))):bkB [] bx=bx:=rfl
def z95 (st:ASt) (ks ids:List Nat) (Q:z5c→ASt→Prop) (e:z5c) (bx:List (Nat×Option (List z0a))):Prop:=
 (∀id∈ids,(lk bx id).join=none)∧Q e {org:=st.org,env:=z9t st ks,box:=bkB ids bx}
theorem z1pb (st:ASt) (ks:List Nat) (Q:z5c→ASt→Prop) (e:z5c) (bx:List (Nat×Option (List z0a))):z95 st ks [] Q e bx↔Q e {org:=st.org,env:=z9t st ks,box:=bx}:=by
 simp[z95]
def z4ha (st:ASt) (ks lv:List Nat) (x y:List z0a):Prop:=z8b (x++epY st.getB lv y)=true∧(∀i∈lv,∃id cs,y[i]? =some (.bp id 0)∧id<1000000∧st.getB id=some cs∧z7a cs=true)∧(∀i∈lv,∀j∈lv,y[i]? =y[j]? →i=j)∧
 (∀s∈ks,(∀id∈z3d (st.get s),id∉z7i lv y)∨((∀id∈z3d (st.get s),id∈z7i lv y)∧(z7r (z7i lv y) st).get s= .undef))∧(∀p∈st.box,p.1∈z7i lv y∨∀cs,p.2=some cs→∀id∈z6b cs,id∉z7i lv y)
theorem z8jc (st:ASt) (ks:List Nat) (x y:List z0a):z4ha st ks [] x y↔z8b (x++y)=true:=by
 simp[z4ha]

def awp (E:Env):z1c→(z5c→ASt→Prop)→ASt→Prop
 | .skip,Q,st=>Q .normal st
 | .region keep gs xs,Q,st=>z4t E xs st∧z6S gs (z2o keep (z8I E xs st))∧Q .normal (z6q gs (z2o keep (z8I E xs st)))
 | .seq a b,Q,st=>awp E a (z2l (awp E b Q) Q) st
 | .cond c a b,Q,st=>isB (arg E st.get c)∧(asB (arg E st.get c)=true→awp E a Q st)∧(asB (arg E st.get c)=false→awp E b Q st)
 | .block id b,Q,st=>awp E b (z8v id Q) st
 | .loop b,Q,st=>∃I:Nat→ASt→Prop,(∃m,I m st)∧∀m st,I m st→awp E b (z2l (fun st'=>∃m',m'<m∧I m' st') Q) st
 | .scope b,Q,st=>awp E b Q st
 | .exit id,Q,st=>Q (.exit id) st
 | .ret,Q,st=>Q .ret st
 | .ghost g c,Q,st=>z9i g st∧awp E c Q (z1b g st)
 | .range f t ks ps as bd,Q,st=>∃x y,arg E st.get t= .fn f x y∧z4ha st ks (E.I f).lv x y∧(E.I f).pre x (epY st.getB (E.I f).lv y)∧(∀p∈ps,p∉ks∧lk st.org p=none)∧
   ∃(N:Nat) (I:Nat→List (Nat×Option (List z0a))→Prop),I 0 (rmB (z7i (E.I f).lv y) st.box)∧(∀i bx,I i bx→i≤N)∧
    (∀i bx,I i bx→(E.I f).el x (epY st.getB (E.I f).lv y) i=none→z95 st ks (z7i (E.I f).lv y) Q .normal bx)∧
    ∀i bx xs,I i bx→(E.I f).el x (epY st.getB (E.I f).lv y) i=some xs→xs.length=ps.length∧z7a xs=true∧
     ∀V:Nat→Value,awp E as (z2l (awp E bd (z5yc (z7r (z7i (E.I f).lv y) st) ks V (I (i+1)) (fun e s=>z95 st ks (z7i (E.I f).lv y) Q e s.box))) (fun _ _=>False)) (z3oa (z7r (z7i (E.I f).lv y) st) ks ps V xs bx)
 | .bad,_,_=>False
 | .alt a b,Q,st=>awp E a Q st∨awp E b Q st
 | .thawc b i id c,Q,st=>z63 b i id st∧∀m,awp E c Q (z40 b i id m st)
 | .holdc s t c,Q,st=>∃V,z9W s t st V∧∀V',z1pd V'=z1pd V→awp E c Q (z72 s t V' st)

def z5ra (K:Cx) (n:Nat):z1c→Code→Bool
 | .ghost _ c,x=>z5ra K n c x
 | .thawc _ _ _ c,x=>z5ra K n c x
 | .holdc _ _ c,x=>z5ra K n c x
 | .skip,x=>match x with| .skip=>true| .label _=>true|_=>false
 | .region _ _ xs,x=>match x with| .region _ ops draw=>z90a K n ops ops.toList xs&&(!draw||(z5vc ops xs&&K.P.follows .mixedOrders))|_=>false
 | .seq a b,x=>match x with| .seq p q=>z5ra K n a p&&z5ra K n b q|_=>false
 | .cond c a b,x=>match x with| .cond c' p q=>z8ua K c' c&&z5ra K n a p&&z5ra K n b q|_=>false
 | .block id b,x=>match x with| .block id' p=>(id==id')&&z5ra K n b p|_=>false
 | .loop b,x=>match x with| .loop p=>z5ra K n b p|_=>false
 | .scope b,x=>match x with| .scope p=>z5ra K n b p|_=>false
 | .exit id,x=>match x with| .exit id'=>id==id'|_=>false
 | .ret,x=>match x with| .ret=>true|_=>false
 | .range _ t _ ps as bd,x=>match x with| .rangeFunc g qs p q=>z8ua K g t&&(qs.toList==ps)&&ps.all (· <n)&&decide ps.Nodup&&z5ra K n as p&&z5ra K n bd q|_=>false
 | .bad,_=>true
 | .alt a b,x=>z5ra K n a x&&z5ra K n b x

def z2Da:z1c→Bool
 | .region _ gs _=>gs.all z0h.cold
 | .seq a b=>z2Da a&&z2Da b
 | .cond _ a b=>z2Da a&&z2Da b
 | .block _ b=>z2Da b
 | .loop b=>z2Da b
 | .scope b=>z2Da b
 | .ghost g c=>g.cold&&z2Da c
 | .thawc _ _ _ _=>false
 | .holdc _ _ c=>z2Da c
 | .alt a b=>z2Da a&&z2Da b
 | .range _ _ _ _ as bd=>z2Da as&&z2Da bd
 |_=>true
def z4ya:z1c→Bool
 | .seq a b=>z4ya a&&z4ya b
 | .cond _ a b=>z4ya a&&z4ya b
 | .block _ b=>z4ya b
 | .loop b=>z4ya b
 | .scope b=>z4ya b
 | .ghost _ c=>z4ya c
 | .thawc _ _ _ c=>z4ya c
 | .holdc _ _ c=>z4ya c
 | .alt a b=>z4ya a&&z4ya b
 | .range .. =>false
 |_=>true
def z20a:z1c→Bool
 | .seq a b=>z20a a&&z20a b
 | .cond _ a b=>z20a a&&z20a b
 | .block _ b=>z20a b
 | .loop b=>z20a b
 | .scope b=>z20a b
 | .ghost _ c=>z20a c
 | .thawc _ _ _ c=>z20a c
 | .holdc _ _ c=>z20a c
 | .alt a b=>z20a a&&z20a b
 | .range _ _ _ _ as bd=>z4ya as&&z4ya bd
 |_=>true

def z4a:z1c→List (Nat×Bool)
 | .region _ _ xs=>xs.flatMap fun x=>z0A x.op
 | .seq a b=>z4a a++z4a b
 | .cond _ a b=>z4a a++z4a b
 | .block _ b=>z4a b
 | .loop b=>z4a b
 | .scope b=>z4a b
 | .ghost _ c=>z4a c
 | .thawc _ _ _ c=>z4a c
 | .holdc _ _ c=>z4a c
 | .alt a b=>z4a a++z4a b
 | .range _ _ _ _ as bd=>z4a as++z4a bd
 |_=>[]

def z5Oa:z1c→List Nat
 | .seq a b=>z5Oa a++z5Oa b
 | .cond _ a b=>z5Oa a++z5Oa b
 | .block _ b=>z5Oa b
 | .loop b=>z5Oa b
 | .scope b=>z5Oa b
 | .ghost _ c=>z5Oa c
 | .thawc _ _ _ c=>z5Oa c
 | .holdc _ _ c=>z5Oa c
 | .alt a b=>z5Oa a++z5Oa b
 | .range f _ _ _ as bd=>f::(z5Oa as++z5Oa bd)
 |_=>[]

section
variable {K : Cx} {base : z4f} {n : Nat} {st : ASt} {a : Act} {w : World}

theorem z7Ba {g:Gh} {bx:Nat→Option (List z0a)} (hI:Inv K base g w bx):z9d base.S base.w0 g.S w:=fun b i x hi hc=>by
 have hb:b<base.w0.heap.size:=World.block_lt_of_cell? base.w0 ⟨b,i,none⟩ hc
 unfold z4f.S at hi
 split at hi
 ·rename_i h
  rw[hI.sS b h.1 h.2]
  refine⟨hi,?_⟩
  rw[World.cell?_of_block (w:=base.w0) (a:=⟨b,i,none⟩) (hI.fr.block b h.1 h.2)]
  exact hc
 ·omega

theorem z6sa (f:Nat→z0a) (s:Nat):∀l:List Nat,lk (l.map fun s=>(s,f s)) s=if s∈l then some (f s) else none
 |[]=>by simp[lk]
 |t::l=>by
  simp only[List.map_cons,lk,List.mem_cons]
  by_cases h:s=t
  ·subst h;simp
  ·rw[if_neg h,z6sa f s l]
   simp only[h,false_or]

theorem z1Rc (keep:List Nat) (st:ASt) (s:Nat):(z2o keep st).get s=if s∈keep then st.get s else dem ((lk st.org s).getD .undef):=by
 have:(z2o keep st).get s=match lk (keep.map fun s=>(s,st.get s)) s with|some d=>d|none=>dem ((lk st.org s).getD .undef):=rfl
 rw[this,z6sa]
 by_cases h:s∈keep
 ·rw[if_pos h,if_pos h]
 ·rw[if_neg h,if_neg h]

theorem z0La (keep:List Nat) (hR:Rel K base n st a w):Rel K base n (z2o keep st) a w:=by
 obtain⟨g,hI,hS,hO,h⟩:=hR
 refine⟨g,hI,fun s=> ?_,hO,h⟩
 rw[z1Rc]
 split
 ·exact hS s
 ·cases hs:lk st.org s with
  |none=>simp[Abs.dem,Rep]
  |some d=>exact z9b.dem _ (z9b.mono (z7Ba hI) d _ (hO s d hs))

theorem z2za {α:Type} (p:Nat→Bool):∀(l:List (Nat×α)) (s:Nat),lk (l.filter fun q=>p q.1) s=if p s then lk l s else none
 |[],s=>by simp[lk]
 |(k,x)::l,s=>by
  have ih:=z2za p l s
  by_cases hk:p k=true
  ·simp only[List.filter_cons,hk,if_true,lk,ih]
   by_cases h:s=k
   ·subst h;simp[hk]
   ·simp only[if_neg h]
  ·simp only[List.filter_cons,hk,Bool.false_eq_true,if_false,lk,ih]
   by_cases h:s=k
   ·subst h;simp[hk]
   ·simp only[if_neg h]

theorem z15a {α:Type}:∀{l:List (Nat×α)} {s:Nat} {x:α},lk l s=some x→(s,x)∈l
 |[],_,_,h=>by simp[lk] at h
 |(k,y)::l,s,x,h=>by
  simp only[lk] at h
  split at h
  ·cases h;subst_vars;simp
  ·exact List.mem_cons_of_mem _ (z15a h)

theorem z34a:∀{cs:List z0a} {c:z0a} {id:Nat},c∈cs→id∈z3d c→id∈z6b cs
 |[],_,_,h,_=>by cases h
 |d::ds,c,id,h,hi=>by
  simp only[z6b,List.mem_append]
  rcases List.mem_cons.1 h with rfl|h
  ·exact .inl hi
  ·exact .inr (z34a h hi)

theorem z0dd (ids:List Nat) (hR:Rel K base n st a w) (hok:z9i (.drop ids) st):Rel K base n (z1b (.drop ids) st) a w:=by
 obtain⟨g,hI,hS,hO,h⟩:=hR
 obtain⟨h1,h2⟩:=hok
 let g':Gh:={g with mu:=fun id=>if id∈ids then none else g.mu id}
 have hgetB:∀id,(z1b (.drop ids) st).getB id=if id∈ids then none else st.getB id:=fun id=>by
  simp only[ASt.getB,z1b]
  rw[z2za (fun k=> !ids.contains k)]
  by_cases hi:id∈ids
  ·simp[hi]
  ·simp[hi]
 have rep:∀{d:z0a} {v:Value} {l:Option Loc},(∀id∈z3d d,id∉ids)→Rep K.toCon g w l d v→Rep K.toCon g' w l d v:=fun {d v l} hd hr=>
  Rep.mono (g:=g) (g':=g') (z9d.refl g.S w) d v l l (fun id hid b hb=>by simp only[g',if_neg (hd id hid)];exact hb) (fun m hm=>⟨m,hm,fun b hb=>⟨hb,rfl,fun _ _ h=>h⟩⟩) hr
 refine⟨g',⟨hI.fr,hI.sS,fun i j b hi hj=> ?_,fun id cs hc=> ?_,fun id hid=> ?_,fun id b hb=> ?_,hI.owW,hI.glob,hI.kp,fun id b cs ho hb hc hd=> ?_,fun id b h1 h2 hb=>by
  simp only[g'] at hb
  split at hb
  ·cases hb
  ·exact hI.old id b h1 h2 hb⟩,fun s=> ?_,hO,h⟩
 ·simp only[g'] at hi hj
  split at hi
  ·cases hi
  ·split at hj
   ·cases hj
   ·exact hI.inj i j b hi hj
 ·rw[hgetB] at hc
  split at hc
  ·cases hc
  ·rename_i hni
   obtain⟨b,k1,k2,k3⟩:=hI.bxok id cs hc
   refine⟨b,by simp only[g',if_neg hni];exact k1,k2,fun i d hi=> ?_⟩
   obtain⟨⟨x,h4,h5⟩,h6⟩:=k3 i d hi
   have hbox:∃c,lk st.box id=some (some c)∧c=cs:=by
    simp only[ASt.getB] at hc
    cases hl:lk st.box id with
    |none=>rw[hl] at hc;cases hc
    |some o=>rw[hl] at hc;simp only[Option.join_some] at hc;exact⟨cs,by rw[hc],rfl⟩
   obtain⟨c,hl,rfl⟩:=hbox
   have:=(h2 _ (z15a hl)).resolve_left hni c rfl
   exact⟨⟨x,h4,rep (fun id' hid'=>this id' (z34a (z9va hi) hid')) h5⟩,h6⟩
 ·rw[hgetB] at hid
  simp only[g']
  split
  ·rfl
  ·rename_i hni;rw[if_neg hni] at hid;exact hI.nobx id hid
 ·simp only[g'] at hb
  split at hb
  ·cases hb
  ·exact hI.muW id b hb
 ·simp only[g'] at hb
  rw[hgetB] at hc
  split at hc
  ·cases hc
  ·rename_i hni
   rw[if_neg hni] at hb
   exact z8t.keep (hI.obok id b cs ho hb hc hd) rfl fun k hk=>⟨hk,rfl⟩
 ·have hget:(z1b (.drop ids) st).get s=st.get s:=rfl
  rw[hget]
  unfold ASt.get
  cases hl:lk st.env s with
  |some d=>
   have:=hS s
   unfold ASt.get at this
   rw[hl] at this
   exact rep (h1 _ (z15a hl)) this
  |none=>
   cases hs:lk st.org s with
   |none=>simp[Abs.dem,Rep]
   |some d=>exact z9b.dem (g:=g') _ (z9b.mono (z7Ba hI) d _ (hO s d hs))

section
variable {ids : List Nat} {g : Gh} {bx : Nat → Option (List z0a)}

theorem z3vc (hI:Inv K base g w bx) (hbs:∀id∈ids,∃cs,bx id=some cs∧∀c∈cs,z0b c=true) {id b:Nat} (h1:id∈ids) (h3:g.mu id=some b):z4b K.toCon (z9vb g bx ids) w ((bx id).getD []) b 0:=by
 have hk:=z4Ia hI ids hbs
 obtain⟨cs,h2,hp⟩:=hbs id h1
 rw[h2]
 refine z4b.mk fun i e he=> ?_
 obtain⟨b',k1,k2,k3⟩:=hI.bxok id cs h2
 rw[h3] at k1;cases k1
 obtain⟨⟨x,hx,hr⟩,_⟩:=k3 i e he
 rw[Nat.zero_add]
 refine⟨?_,x,hx,z9b.mono hk e x (Rep.pure e x _ (hp e (z9va he)) hr)⟩
 rw[z3ac hI h1 h3,h2]
 exact(List.getElem?_eq_some_iff.1 he).1

def frz (g:Gh) (bx:Nat→Option (List z0a)) (ids:List Nat):Gh→Prop:=fun g'=>g'.S=z9vb g bx ids∧g'.ow=g.ow∧g'.mu=fun id=>if id∈ids then none else g.mu id

mutual
theorem z95b (hI:Inv K base g w bx) (hbs:∀id∈ids,∃cs,bx id=some cs∧∀c∈cs,z0b c=true) {g':Gh} (hg:frz g bx ids g'):
  ∀(d:z0a) (v:Value) (l:Option Loc),Rep K.toCon g w l d v→Rep K.toCon g' w l (z8F ids (fun id=>(bx id).getD []) d) v
 | .undef,_,_,_=>by simp[z8F,Rep]
 | .lit x,v,_,h=>by simpa[z8F,Rep] using h
 | .agg cs,v,_,h=>by
  simp only[Rep,z8F] at h⊢
  obtain⟨a,rfl,h⟩:=h
  exact⟨a,rfl,z3pb hI hbs hg cs _ h⟩
 | .tup cs,v,_,h=>by
  simp only[Rep,z8F] at h⊢
  obtain⟨a,rfl,h⟩:=h
  exact⟨a,rfl,z3pb hI hbs hg cs _ h⟩
 | .otup _ _ _ _ _,v,_,_=>by simp[z8F,Rep]
 | .oagg _ _ _ _ _ _,v,_,_=>by simp[z8F,Rep]
 | .fn f x y,v,_,h=>by
  simp only[Rep,z8F] at h⊢
  obtain⟨a,c,rfl,h1,h2⟩:=h
  exact⟨a,c,rfl,z3pb hI hbs hg x _ h1,z3pb hI hbs hg y _ h2⟩
 | .sl (.own esz) nl n cs,v,l,h=>by
  have hk:=z4Ia hI ids hbs
  simp only[z8F]
  refine Rep.mono (g:=g) (by rw[hg.1];exact hk) _ v l l (by simp[z3d]) (fun m hm=>⟨m,hm,fun b hb=>⟨by rw[hg.2.1];exact hb,?_,fun _ _ h=>h⟩⟩) h
  rw[hg.1]
  refine z7Va fun id hid hmu=> ?_
  have:=(hI.muW id b hmu).2.2
  rw[hb] at this;cases this
 | .sl .plain nl n cs,v,_,h=>by
  simp only[Rep,z8F] at h⊢
  rw[hg.1]
  exact z9b.mono (z4Ia hI ids hbs) _ _ h
 | .sl .clip nl n cs,v,_,h=>by
  simp only[Rep,z8F] at h⊢
  rw[hg.1]
  exact z9b.mono (z4Ia hI ids hbs) _ _ h
 | .ep cs,v,_,h=>by
  simp only[Rep,z8F] at h⊢
  rw[hg.1]
  exact z9b.mono (z4Ia hI ids hbs) _ _ h
 | .bp id off,v,l,h=>by
  simp only[z8F]
  split
  ·rename_i hid
   simp only[Rep] at h
   obtain⟨b,hb,rfl⟩:=h
   simp only[Rep,z9b]
   refine⟨b,off,rfl,?_⟩
   have:=(z3vc hI hbs hid hb).drop off
   rw[Nat.zero_add] at this
   rw[hg.1]
   exact this
  ·rename_i hid
   simp only[Rep] at h⊢
   obtain⟨b,hb,rfl⟩:=h
   exact⟨b,by rw[hg.2.2];simp only[if_neg hid];exact hb,rfl⟩
 | .bv id e off n c,v,l,h=>by
  simp only[z8F]
  split
  ·rename_i hid
   simp only[Rep] at h
   obtain⟨b,cap,o',hb,rfl,hcap,_,ho',_⟩:=h
   simp only[Rep,z9b]
   refine .inl ⟨b,o',cap,rfl,hcap,?_,by simp,by simp⟩
   rw[hg.1]
   rcases ho' with rfl|⟨rfl,_⟩
   ·have:=((z3vc hI hbs hid hb).drop o').take (n*e)
    rwa[Nat.zero_add] at this
   ·rw[Nat.zero_mul,List.take_zero];simp[z4b]
  ·rename_i hid
   simp only[Rep] at h⊢
   obtain⟨b,cap,o,hb,rfl,h1⟩:=h
   exact⟨b,cap,o,by rw[hg.2.2];simp only[if_neg hid];exact hb,rfl,h1⟩
theorem z3pb (hI:Inv K base g w bx) (hbs:∀id∈ids,∃cs,bx id=some cs∧∀c∈cs,z0b c=true) {g':Gh} (hg:frz g bx ids g'):
  ∀(ds:List z0a) (vs:List Value),z2b K.toCon g w ds vs→z2b K.toCon g' w (z6j ids (fun id=>(bx id).getD []) ds) vs
 |[],vs,h=>by simpa[z2b,z6j] using h
 |c::cs,vs,h=>by
  simp only[z2b,z6j] at h⊢
  obtain⟨x,xs,rfl,h1,h2⟩:=h
  exact⟨x,xs,rfl,z95b hI hbs hg c x none h1,z3pb hI hbs hg cs xs h2⟩
end
end

theorem z31b {α β:Type} (f:α→β) (s:Nat):∀l:List (Nat×α),lk (l.map fun p=>(p.1,f p.2)) s=(lk l s).map f
 |[]=>rfl
 |(k,x)::l=>by
  simp only[List.map_cons,lk]
  split
  ·rfl
  ·exact z31b f s l

theorem z9bc (ids:List Nat) (f:Nat→List z0a):∀(l:List z0a) (i:Nat),(z6j ids f l)[i]? =(l[i]?).map (z8F ids f)
 |[],i=>by simp[z6j]
 |c::cs,i=>by
  simp only[z6j]
  cases i with
  |zero=>simp
  |succ i=>simp[z9bc ids f cs i]

theorem z0Cc (ids:List Nat) (hR:Rel K base n st a w) (hok:z9i (.freeze ids) st):Rel K base n (z1b (.freeze ids) st) a w:=by
 obtain⟨g,hI,hS,hO,h⟩:=hR
 have hbs:∀id∈ids,∃cs,st.getB id=some cs∧∀c∈cs,z0b c=true:=fun id hid=>by
  obtain⟨cs,h1,h2⟩:=hok id hid
  exact⟨cs,h1,(z4i cs).1 h2⟩
 have hk:=z4Ia hI ids hbs
 let g':Gh:={S:=z9vb g st.getB ids,ow:=g.ow,mu:=fun id=>if id∈ids then none else g.mu id}
 have hg:frz g st.getB ids g':=⟨rfl,rfl,rfl⟩
 let f:Nat→List z0a:=fun id=>(st.getB id).getD []
 have hgetB:∀id,(z1b (.freeze ids) st).getB id=if id∈ids then none else(st.getB id).map (z6j ids f):=fun id=>by
  have hb:(z1b (.freeze ids) st).box=(st.box.filter fun p=> !ids.contains p.1).map fun p=>(p.1,(fun o:Option (List z0a)=>o.map (z6j ids f)) p.2):=rfl
  unfold ASt.getB
  rw[hb,z31b (fun o:Option (List z0a)=>o.map (z6j ids f)),z2za (fun k=> !ids.contains k)]
  by_cases hi:id∈ids
  ·simp[hi]
  ·simp only[List.contains_eq_mem,hi,decide_false,Bool.not_false,if_true,if_false]
   cases hl:lk st.box id with
   |none=>simp
   |some o=>cases o<;>simp
 have hSother:∀b,(∀id∈ids,g.mu id≠some b)→g'.S b=g.S b:=fun b hb=>z7Va fun id h1 h2=>hb id h1 h2
 refine⟨g',⟨hI.fr,fun b hb hw=> ?_,fun i j b hi hj=> ?_,fun id cs hc=> ?_,fun id hid=> ?_,fun id b hb=> ?_,hI.owW,fun m hm=>z4b.mono hk _ _ _ (hI.glob m hm),hI.kp.trans hk,fun id b cs ho hb hc hd=> ?_,fun id b h1 h2 hb=>by
  simp only[g'] at hb
  split at hb
  ·cases hb
  ·exact hI.old id b h1 h2 hb⟩,fun s=> ?_,hO,h⟩
 ·rw[hSother b fun id _ hmu=> ?_]
  ·exact hI.sS b hb hw
  ·rcases(hI.muW id b hmu).1 with h1|h1
   ·omega
   ·exact hw h1
 ·simp only[g'] at hi hj
  split at hi
  ·cases hi
  ·split at hj
   ·cases hj
   ·exact hI.inj i j b hi hj
 ·rw[hgetB] at hc
  split at hc
  ·cases hc
  ·rename_i hni
   cases ho:st.getB id with
   |none=>rw[ho] at hc;cases hc
   |some ds=>
    rw[ho] at hc
    simp only[Option.map_some,Option.some.injEq] at hc
    subst hc
    obtain⟨b,k1,k2,k3⟩:=hI.bxok id ds ho
    refine⟨b,by simp only[g',if_neg hni];exact k1,?_,fun i d hi=> ?_⟩
    ·rw[hSother b fun j hj hmu=>hni (by rw[hI.inj id j b k1 hmu];exact hj)]
     exact k2
    ·rw[z9bc] at hi
     cases hd:ds[i]? with
     |none=>rw[hd] at hi;cases hi
     |some e=>
      rw[hd] at hi
      simp only[Option.map_some,Option.some.injEq] at hi
      subst hi
      obtain⟨⟨x,h4,h5⟩,h6⟩:=k3 i e hd
      exact⟨⟨x,h4,z95b hI hbs hg e x _ h5⟩,h6⟩
 ·rw[hgetB] at hid
  simp only[g']
  split
  ·rfl
  ·rename_i hni
   rw[if_neg hni] at hid
   refine hI.nobx id ?_
   cases ho:st.getB id with
   |none=>rfl
   |some ds=>rw[ho] at hid;cases hid
 ·simp only[g'] at hb
  split at hb
  ·cases hb
  ·exact hI.muW id b hb
 ·simp only[g'] at hb
  rw[hgetB] at hc
  split at hc
  ·cases hc
  ·rename_i hni
   rw[if_neg hni] at hb
   cases ho':st.getB id with
   |none=>rw[ho'] at hc;cases hc
   |some ds=>
    rw[ho'] at hc
    simp only[Option.map_some,Option.some.injEq] at hc
    subst hc
    refine z8t.keep (hI.obok id b ds ho hb ho' fun he=>hd ?_) rfl fun k hk=>⟨hk,rfl⟩
    match ds,he with
    |[],_=>rfl
    |[_],_=>simp[z6j,hdA]
    |_::c::cs,he=>simp only[List.drop_succ_cons,List.drop_zero,hdA,List.headD_cons] at he;subst he;simp[z6j,hdA,z8F]
 ·have hg0:=hS s
  unfold ASt.get at hg0⊢
  have:lk (z1b (.freeze ids) st).env s=(lk st.env s).map (z8F ids f):=z31b (z8F ids f) s st.env
  rw[this]
  cases hl:lk st.env s with
  |some d=>
   rw[hl] at hg0
   exact z95b hI hbs hg d _ _ hg0
  |none=>
   have hg1:(z1b (.freeze ids) st).org=st.org:=rfl
   rw[hg1]
   cases hs:lk st.org s with
   |none=>simp[Abs.dem,Rep]
   |some d=>exact z9b.dem (g:=g') _ (z9b.mono hk d _ (z9b.mono (z7Ba hI) d _ (hO s d hs)))

def z4Qb (K:Cx) (base:z4f):Prop:=(∀b,base.W b→base.S0 b=0)∧∀n∈K.N.gs,z4b K.toCon base.S0 base.w0 (K.E.T n) (K.N.gnum n) 0
mutual
theorem z0lc {g g':Gh} {w:World} (hm:∀id b,g.mu id=some b→g'.mu id=some b):∀(d:z0a) (v:Value) (l l':Option Loc),frm d=true→Rep K.toCon g w l d v→(∀e nl n cs,d= .sl (.own e) nl n cs→l'=none)→Rep K.toCon g' w l' d v
 | .lit x,v,_,_,_,h,_=>by simpa[Rep] using h
 | .undef,_,_,_,_,_,_=>by simp[Rep]
 | .bp id off,v,_,_,_,h,_=>by
  simp only[Rep] at h⊢
  obtain⟨b,hb,rfl⟩:=h
  exact⟨b,hm _ _ hb,rfl⟩
 | .bv id e off n c,v,_,_,_,h,_=>by
  simp only[Rep] at h⊢
  obtain⟨b,cap,o,hb,rfl,h1⟩:=h
  exact⟨b,cap,o,hm _ _ hb,rfl,h1⟩
 | .agg cs,v,_,_,hf,h,_=>by
  simp only[Rep] at h⊢
  obtain⟨a,rfl,h⟩:=h
  exact⟨a,rfl,z9Ab hm cs _ (by simpa[frm] using hf) h⟩
 | .tup cs,v,_,_,hf,h,_=>by
  simp only[Rep] at h⊢
  obtain⟨a,rfl,h⟩:=h
  exact⟨a,rfl,z9Ab hm cs _ (by simpa[frm] using hf) h⟩
 | .fn f x y,v,_,_,hf,h,_=>by
  simp only[Rep] at h⊢
  obtain⟨a,c,rfl,h1,h2⟩:=h
  simp only[frm,Bool.and_eq_true] at hf
  exact⟨a,c,rfl,z9Ab hm x _ hf.1 h1,z9Ab hm y _ hf.2 h2⟩
 | .sl m nl n cs,v,l,l',hf,h,hl=>by
  have e:cs=[]:=by simpa[frm] using hf
  subst e
  have key:∀m',z9b K.toCon g.S w (.sl m' nl n []) v→z9b K.toCon g'.S w (.sl m' nl n []) v:=fun m' hp=>by
   simp only[z9b] at hp⊢
   rcases hp with⟨b,o,cap,h1,h2,_,h4⟩|h5
   ·exact .inl ⟨b,o,cap,h1,h2,trivial,h4⟩
   ·exact .inr h5
  cases m with
  |own e=>
   simp only[Rep] at h⊢
   refine⟨key _ h.1,fun l'' hl''=> ?_⟩
   rw[hl e nl n [] rfl] at hl''
   cases hl''
  |plain=>simp only[Rep] at h⊢;exact key _ h
  |clip=>simp only[Rep] at h⊢;exact key _ h
 | .otup _ _ _ _ _,_,_,_,hf,_,_=>by simp[frm] at hf
 | .oagg _ _ _ _ _ _,_,_,_,hf,_,_=>by simp[frm] at hf
 | .ep cs,v,_,_,hf,h,_=>by
  have e:cs=[]:=by simpa[frm] using hf
  subst e
  simp only[Rep,z9b] at h⊢
  obtain⟨b,o,h1,_⟩:=h
  exact⟨b,o,h1,trivial⟩
theorem z9Ab {g g':Gh} {w:World} (hm:∀id b,g.mu id=some b→g'.mu id=some b):∀(ds:List z0a) (vs:List Value),z5W ds=true→z2b K.toCon g w ds vs→z2b K.toCon g' w ds vs
 |[],_,_,h=>by simpa[z2b] using h
 |c::cs,l,hf,h=>by
  simp only[z2b] at h⊢
  simp only[z5W,Bool.and_eq_true] at hf
  obtain⟨x,xs,rfl,h1,h2⟩:=h
  exact⟨x,xs,rfl,z0lc hm c x none none hf.1 h1 (fun _ _ _ _ _=>rfl),z9Ab hm cs xs hf.2 h2⟩
end
mutual
theorem z7Ub:∀c:z0a,z6c c=true→z0b c=true
 | .lit _,_=>rfl
 | .agg cs,h=>by simp only[z6c,z0b] at h⊢;exact z9Fb cs h
 | .tup cs,h=>by simp only[z6c,z0b] at h⊢;exact z9Fb cs h
 | .undef,h=>by simp[z6c] at h
 | .sl _ _ _ _,h=>by simp[z6c] at h
 | .bp _ _,h=>by simp[z6c] at h
 | .bv _ _ _ _ _,h=>by simp[z6c] at h
 | .ep _,h=>by simp[z6c] at h
 | .otup _ _ _ _ _,h=>by simp[z6c] at h
 | .oagg _ _ _ _ _ _,h=>by simp[z6c] at h
 | .fn _ _ _,h=>by simp[z6c] at h
theorem z9Fb:∀cs:List z0a,z7a cs=true→z8b cs=true
 |[],_=>rfl
 |c::cs,h=>by
  simp only[z7a,z8b,Bool.and_eq_true] at h⊢
  exact⟨z7Ub c h.1,z9Fb cs h.2⟩
end
theorem z1Ob:∀{cs:List z0a} {c:z0a},z7a cs=true→c∈cs→z6c c=true
 |[],_,_,h=>by cases h
 |d::cs,c,hf,h=>by
  simp only[z7a,Bool.and_eq_true] at hf
  rcases List.mem_cons.1 h with rfl|h
  ·exact hf.1
  ·exact z1Ob hf.2 h
theorem z8Gb {S S':Nat→Nat} {w:World}:∀(cs:List z0a) (b o:Nat),S' b=S b→z7a cs=true→z4b K.toCon S w cs b o→z4b K.toCon S' w cs b o
 |[],_,_,_,_,_=>by simp[z4b]
 |c::cs,b,o,hS,hf,h=>by
  simp only[z4b] at h⊢
  simp only[z7a,Bool.and_eq_true] at hf
  obtain⟨h0,⟨x,hx,h1⟩,h2⟩:=h
  refine⟨by rw[hS];exact h0,⟨x,hx,?_⟩,z8Gb cs b (o+1) hS hf.2 h2⟩
  have r1:=z9b.rep (g:={S:=S,ow:=fun _=>none,mu:=fun _=>none}) c x h1
  have r2:=z2Va (K:=K) (g':={S:=S',ow:=fun _=>none,mu:=fun _=>none}) (w':=w) c x none none hf.1 r1
  exact Rep.pure (g:={S:=S',ow:=fun _=>none,mu:=fun _=>none}) c x none (z7Ub c hf.1) r2
theorem z89b (s id:Nat) (hF:z4Qb K base) (hR:Rel K base n st a w) (hok:z63 none s id st):∃e nl k cs cap,st.get s= .sl (.own e) nl k cs∧k≤cap∧cs.length=k*e∧
  ∀(c:Nat) (xs:List z0a),(xs=[]∧c=k∧id<500000)∨(c=cap∧xs=List.replicate ((cap-k)*e) .undef)→Rel K base n {st with env:=(s,.bv id e 0 k c)::st.env,box:=(id,some (cs++xs))::st.box} a w:=by
 obtain⟨g,hI,hS,hO,h⟩:=hR
 obtain⟨hid,hgB,henv,hfe,hfb⟩:=hok
 split at henv
 rotate_left
 ·exact henv.elim
 rename_i e nl k cs hl
 obtain⟨hk0,hmf⟩:=henv
 have hget:st.get s= .sl (.own e) nl k cs:=by unfold ASt.get;rw[hl]
 have hs:=hS s
 rw[hget] at hs
 simp only[Rep] at hs
 obtain⟨hp,hown⟩:=hs
 obtain⟨b,cap,hv,hle,hlen,hSb,how,hth⟩:z7l g w (.slot s) e k cs.length (a.tmps.getD s undef):=by
  rcases hown _ rfl with(h1|⟨⟨p,h1⟩,_⟩)|h1
  ·rw[h1] at hp
   simp only[z9b] at hp
   rcases hp with⟨b,o,cap,h2,_⟩|⟨_,_,h2,_⟩
   ·cases h2
   ·omega
  ·rw[h1] at hp
   simp only[z9b] at hp
   rcases hp with⟨b,o,cap,h2,_⟩|⟨_,h2,_⟩
   ·simp only[Value.slice.injEq] at h2;omega
   ·simp only[Value.slice.injEq] at h2;omega
  ·exact h1
 obtain⟨hB,hbs⟩:=hI.owW b _ how
 have hge:base.w0.heap.size≤b∨(base.W b∧base.S0 b=0):=hB.imp (fun h=>h) fun h=>⟨h,hF.1 b h⟩
 have hmub:∀j,g.mu j≠some b:=fun j hj=>by have:=(hI.muW j b hj).2.2;rw[how] at this;cases this
 have hmuid:g.mu id=none:=hI.nobx id hgB
 let g':Gh:={S:=fun x=>if x=b then 0 else g.S x,ow:=fun x=>if x=b then none else g.ow x,mu:=fun i=>if i=id then some b else g.mu i}
 have hm:∀i x,g.mu i=some x→g'.mu i=some x:=fun i x hx=>by
  have:i≠id:=fun e=>by rw[e,hmuid] at hx;cases hx
  simp only[g',if_neg this];exact hx
 have hcells:z4b K.toCon g.S w cs b 0:=by
  rw[hv] at hp
  simp only[z9b] at hp
  rcases hp with⟨b',o,cap',h2,_,h3,_⟩|⟨q,h2,_⟩
  ·simp only[Value.slice.injEq,Option.some.injEq,Addr.mk.injEq] at h2
   obtain⟨⟨rfl,rfl,_⟩,_⟩:=h2
   exact h3
  ·simp only[Value.slice.injEq] at h2;omega
 -- what is owned elsewhere
 have top:∀{d:z0a} {v:Value} {l:Loc},l≠ .slot s→z5p d=true→Rep K.toCon g w (some l) d v→Rep K.toCon g' w (some l) d v:=fun {d v l} hne hf hr=>by
  by_cases ho:∃e nl n cs,d= .sl (.own e) nl n cs
  ·obtain⟨e1,nl1,n1,cs1,rfl⟩:=ho
   simp only[z5p] at hf
   simp only[Rep] at hr⊢
   obtain⟨h1,h2⟩:=hr
   rcases h2 l rfl with h3|⟨b2,cap2,h4,h5,h6,h7,h8,h9⟩
   ·refine⟨?_,fun l' hl'=> .inl h3⟩
    simp only[z9b] at h1⊢
    rcases h1 with⟨b3,o3,c3,q1,q2,q3,q4⟩|q
    ·rcases h3 with h3|⟨_,rfl⟩
     ·rw[h3] at q1;cases q1
     ·exact .inl ⟨b3,o3,c3,q1,q2,trivial,q4⟩
    ·exact .inr q
   ·have hb2:b2≠b:=fun e=>by rw[e,how] at h8;cases h8;exact hne rfl
    refine⟨?_,fun l' hl'=> .inr ⟨b2,cap2,h4,h5,h6,by simp only[g',if_neg hb2];exact h7,by cases hl';simp only[g',if_neg hb2];exact h8,h9⟩⟩
    simp only[z9b] at h1⊢
    rcases h1 with⟨b3,o3,c3,q1,q2,q3,q4⟩|q
    ·refine .inl ⟨b3,o3,c3,q1,q2,?_,q4⟩
     rw[h4] at q1
     simp only[Value.slice.injEq,Option.some.injEq,Addr.mk.injEq] at q1
     obtain⟨⟨rfl,_⟩,_⟩:=q1
     exact z8Gb cs1 _ _ (by simp only[g',if_neg hb2]) hf q3
    ·exact .inr q
  ·have hf':frm d=true:=by
    cases d with
    |sl m nl n cs=>cases m with
     |own e=>exact absurd ⟨e,nl,n,cs,rfl⟩ ho
     |plain=>exact hf
     |clip=>exact hf
    |_=>exact hf
   exact z0lc hm d v _ _ hf' hr fun e nl n cs he=>absurd ⟨e,nl,n,cs,he⟩ ho
 have hkp:z9d base.S0 base.w0 g'.S w:=fun b' i x hi hc=>by
  have hlt:b'<base.w0.heap.size:=World.block_lt_of_cell? base.w0 ⟨b',i,none⟩ hc
  have hne:b'≠b:=fun e=>by subst e;rcases hge with h|⟨_,h⟩<;>omega
  obtain⟨k1,k2⟩:=hI.kp b' i x hi hc
  exact⟨by simp only[g',if_neg hne];exact k1,k2⟩
 refine⟨e,nl,k,cs,cap,hget,hle,hlen,fun c xs hcx=> ?_⟩
 have hgetB:∀j,({st with env:=(s,z0a.bv id e 0 k c)::st.env,box:=(id,some (cs++xs))::st.box}:ASt).getB j=if j=id then some (cs++xs) else st.getB j:=fun j=>by
  simp only[ASt.getB,lk]
  split<;>rfl
 have hbox:∀j ds,st.getB j=some ds→∀c∈ds,z5p c=true:=fun j ds hj=>by
  simp only[ASt.getB] at hj
  cases hl:lk st.box j with
  |none=>rw[hl] at hj;cases hj
  |some o=>rw[hl] at hj;simp only[Option.join_some] at hj;exact hfb _ (z15a hl) ds hj
 have hI':Inv K base g' w ({st with env:=(s,z0a.bv id e 0 k c)::st.env,box:=(id,some (cs++xs))::st.box}:ASt).getB:=by
  refine⟨hI.fr,fun b' hb' hw=> ?_,fun i j x hi hj=> ?_,fun j ds hj=> ?_,fun j hj=> ?_,fun j x hx=> ?_,fun x l hx=> ?_,fun m hm'=>z4b.mono hkp _ _ _ (hF.2 m hm'),hkp,fun j x ds ho hb' hc hd=> ?_,fun j x h1 h2 hx=>by
   simp only[g'] at hx
   split at hx
   ·subst_vars;exact hid.no h1 h2
   ·exact hI.old j x h1 h2 hx⟩
  ·have hne:b'≠b:=fun e=>by
    subst e
    rcases hge with h|⟨h,_⟩
    ·omega
    ·exact hw h
   simp only[g',if_neg hne]
   exact hI.sS b' hb' hw
  ·simp only[g'] at hi hj
   split at hi
   ·cases hi
    split at hj
    ·subst_vars;rfl
    ·exact absurd hj (hmub j)
   ·split at hj
    ·cases hj;exact absurd hi (hmub i)
    ·exact hI.inj i j x hi hj
  ·rw[hgetB] at hj
   split at hj
   ·rename_i he
    subst he
    cases hj
    refine⟨b,by simp[g'],by simp[g'],fun i d hi=> ?_⟩
    have hi0:=hi
    by_cases hic:i<cs.length
    rotate_left
    ·rw[List.getElem?_append_right (by omega)] at hi
     rcases hcx with⟨rfl,_⟩|⟨_,rfl⟩
     ·cases hi
     ·obtain⟨hr1,hr2⟩:=List.getElem?_eq_some_iff.1 hi
      rw[List.getElem_replicate] at hr2
      subst hr2
      rw[List.length_replicate,Nat.sub_mul] at hr1
      have hkc:k*e≤cap*e:=Nat.mul_le_mul_right _ hle
      obtain⟨h8,h9⟩:=hth i (by omega)
      rw[Nat.zero_add] at h8 h9
      obtain⟨y,hy⟩:=Option.isSome_iff_exists.1 h8
      exact⟨⟨y,hy,by simp[Rep]⟩,h9⟩
    rw[List.getElem?_append_left hic] at hi
    obtain⟨_,x,hx,hr⟩:=hcells.get i d hi
    rw[Nat.zero_add] at hx
    have hilt:i<k*e:=by omega
    have hkc:k*e≤cap*e:=Nat.mul_le_mul_right _ hle
    have hfz:=(hth i (by omega)).2
    rw[Nat.zero_add] at hfz
    refine⟨⟨x,hx,?_⟩,hfz⟩
    have hmd:z6c d=true:=z1Ob hmf (z9va hi)
    exact z2Va (g:=g) d x none _ hmd (z9b.rep (g:=g) d x hr)
   ·rename_i hne
    obtain⟨x,k1,k2,k3⟩:=hI.bxok j ds hj
    have hxb:x≠b:=fun e=>hmub j (e▸k1)
    refine⟨x,by simp only[g',if_neg hne];exact k1,by simp only[g',if_neg hxb];exact k2,fun i d hi=> ?_⟩
    obtain⟨⟨y,h4,h5⟩,h6⟩:=k3 i d hi
    exact⟨⟨y,h4,top (by simp) (hbox j ds hj d (z9va hi)) h5⟩,h6⟩
  ·rw[hgetB] at hj
   split at hj
   ·cases hj
   ·rename_i hne
    simp only[g',if_neg hne]
    exact hI.nobx j hj
  ·simp only[g'] at hx
   split at hx
   ·cases hx
    exact⟨hge.imp (fun h=>h) (·.1),hbs,by simp[g']⟩
   ·obtain⟨h1,h2,h3⟩:=hI.muW j x hx
    have hxb:x≠b:=fun e=>hmub j (e▸hx)
    exact⟨h1,h2,by simp only[g',if_neg hxb];exact h3⟩
  ·simp only[g'] at hx
   split at hx
   ·cases hx
   ·exact hI.owW x l hx
  ·have hne:j≠id:=fun e=>by have:=hid.lt;omega
   rw[hgetB,if_neg hne] at hc
   simp only[g',if_neg hne] at hb'
   refine z8t.keep (hI.obok j x ds ho hb' hc hd) rfl fun q hq=>⟨?_,rfl⟩
   have hqb:q≠b:=fun e=>by rw[e,how] at hq;cases hq
   simp only[g',if_neg hqb];exact hq
 refine⟨g',hI',fun t=> ?_,hO,h⟩
 unfold ASt.get
 simp only[lk]
 by_cases ht:t=s
 ·subst ht
  simp only[if_true]
  simp only[Rep]
  exact⟨b,cap,0,by simp[g'],hv,hle,by rcases hcx with⟨_,h,_⟩|⟨h,_⟩<;>omega,.inl rfl,fun h=>by rcases hcx with⟨_,_,h2⟩|⟨h2,_⟩<;>omega⟩
 ·rw[if_neg ht]
  cases hlt:lk st.env t with
  |some d=>
   have:=hS t
   unfold ASt.get at this
   rw[hlt] at this
   exact top (by simpa using ht) ((hfe _ (z15a hlt)).resolve_left ht) this
  |none=>
   cases hs:lk st.org t with
   |none=>simp[Abs.dem,Rep]
   |some d=>exact z9b.dem (g:=g') _ (z9b.mono (z7Ba hI') d _ (hO t d hs))
theorem z2ad (s id:Nat) (hF:z4Qb K base) (hR:Rel K base n st a w) (hok:z9i (.thaw s id) st):Rel K base n (z1b (.thaw s id) st) a w:=by
 obtain⟨e,nl,k,cs,cap,hget,hle,hlen,H⟩:=z89b s id hF hR ⟨.inl hok.1,hok.2⟩
 have hrun:z1b (.thaw s id) st={st with env:=(s,.bv id e 0 k k)::st.env,box:=(id,some (cs++[]))::st.box}:=by
  simp only[z1b,hget,List.append_nil]
 rw[hrun]
 exact H k [] (.inl ⟨rfl,rfl,by have:=hok.1;omega⟩)

theorem z90b (b0 i0 id:Nat) (hF:z4Qb K base) (hR:Rel K base n st a w) (hok:z63 (some b0) i0 id st):∃bs e nl k cs cap,st.getB b0=some bs∧bs.getD i0 .undef= .sl (.own e) nl k cs∧k≤cap∧cs.length=k*e∧
  ∀(c:Nat) (xs:List z0a),(xs=[]∧c=k∧id<500000)∨(c=cap∧xs=List.replicate ((cap-k)*e) .undef)→Rel K base n {st with box:=(b0,some (bs.set i0 (.bv id e 0 k c)))::(id,some (cs++xs))::st.box} a w:=by
 obtain⟨g,hI,hS,hO,h⟩:=hR
 obtain⟨hid,hb0,hgB,hbs,hfe,hfb,hfc⟩:=hok
 cases hgb:st.getB b0 with
 |none=>rw[hgb] at hbs;exact hbs.elim
 |some bs=>
 rw[hgb] at hbs
 simp only at hbs
 obtain⟨hilt,hbs⟩:=hbs
 split at hbs
 rotate_left
 ·exact hbs.elim
 rename_i e nl k cs hget
 obtain⟨hk0,hmf⟩:=hbs
 have hgi:bs[i0]? =some (.sl (.own e) nl k cs):=by
  rw[List.getElem?_eq_getElem hilt]
  rw[List.getD_eq_getElem?_getD,List.getElem?_eq_getElem hilt] at hget
  exact congrArg some hget
 have hne0:b0≠id:=fun e=>by rw[e,hgB] at hgb;cases hgb
 obtain⟨bb,hbb,hSbb,hcellsB⟩:=hI.bxok b0 bs hgb
 obtain⟨⟨v,hvc,hrv⟩,hfzv⟩:=hcellsB i0 _ hgi
 simp only[Rep] at hrv
 obtain⟨hp,hown⟩:=hrv
 obtain⟨b,cap,hv,hle,hlen,hSb,how,hth⟩:z7l g w (.cell b0 i0) e k cs.length v:=by
  rcases hown _ rfl with(h1|⟨⟨p,h1⟩,_⟩)|h1
  ·rw[h1] at hp
   simp only[z9b] at hp
   rcases hp with⟨b,o,cap,h2,_⟩|⟨_,_,h2,_⟩
   ·cases h2
   ·omega
  ·rw[h1] at hp
   simp only[z9b] at hp
   rcases hp with⟨b,o,cap,h2,_⟩|⟨_,h2,_⟩
   ·simp only[Value.slice.injEq] at h2;omega
   ·simp only[Value.slice.injEq] at h2;omega
  ·exact h1
 obtain⟨hB,hbsz⟩:=hI.owW b _ how
 have hge:base.w0.heap.size≤b∨(base.W b∧base.S0 b=0):=hB.imp (fun h=>h) fun h=>⟨h,hF.1 b h⟩
 have hmub:∀j,g.mu j≠some b:=fun j hj=>by have:=(hI.muW j b hj).2.2;rw[how] at this;cases this
 have hmuid:g.mu id=none:=hI.nobx id hgB
 let g':Gh:={S:=fun x=>if x=b then 0 else g.S x,ow:=fun x=>if x=b then none else g.ow x,mu:=fun i=>if i=id then some b else g.mu i}
 have hm:∀i x,g.mu i=some x→g'.mu i=some x:=fun i x hx=>by
  have:i≠id:=fun e=>by rw[e,hmuid] at hx;cases hx
  simp only[g',if_neg this];exact hx
 have hcells:z4b K.toCon g.S w cs b 0:=by
  rw[hv] at hp
  simp only[z9b] at hp
  rcases hp with⟨b',o,cap',h2,_,h3,_⟩|⟨q,h2,_⟩
  ·simp only[Value.slice.injEq,Option.some.injEq,Addr.mk.injEq] at h2
   obtain⟨⟨rfl,rfl,_⟩,_⟩:=h2
   exact h3
  ·simp only[Value.slice.injEq] at h2;omega
 have top:∀{d:z0a} {v:Value} {l:Loc},l≠ .cell b0 i0→z5p d=true→Rep K.toCon g w (some l) d v→Rep K.toCon g' w (some l) d v:=fun {d v l} hne hf hr=>by
  by_cases ho:∃e nl n cs,d= .sl (.own e) nl n cs
  ·obtain⟨e1,nl1,n1,cs1,rfl⟩:=ho
   simp only[z5p] at hf
   simp only[Rep] at hr⊢
   obtain⟨h1,h2⟩:=hr
   rcases h2 l rfl with h3|⟨b2,cap2,h4,h5,h6,h7,h8,h9⟩
   ·refine⟨?_,fun l' hl'=> .inl h3⟩
    simp only[z9b] at h1⊢
    rcases h1 with⟨b3,o3,c3,q1,q2,q3,q4⟩|q
    ·rcases h3 with h3|⟨_,rfl⟩
     ·rw[h3] at q1;cases q1
     ·exact .inl ⟨b3,o3,c3,q1,q2,trivial,q4⟩
    ·exact .inr q
   ·have hb2:b2≠b:=fun e=>by rw[e,how] at h8;cases h8;exact hne rfl
    refine⟨?_,fun l' hl'=> .inr ⟨b2,cap2,h4,h5,h6,by simp only[g',if_neg hb2];exact h7,by cases hl';simp only[g',if_neg hb2];exact h8,h9⟩⟩
    simp only[z9b] at h1⊢
    rcases h1 with⟨b3,o3,c3,q1,q2,q3,q4⟩|q
    ·refine .inl ⟨b3,o3,c3,q1,q2,?_,q4⟩
     rw[h4] at q1
     simp only[Value.slice.injEq,Option.some.injEq,Addr.mk.injEq] at q1
     obtain⟨⟨rfl,_⟩,_⟩:=q1
     exact z8Gb cs1 _ _ (by simp only[g',if_neg hb2]) hf q3
    ·exact .inr q
  ·have hf':frm d=true:=by
    cases d with
    |sl m nl n cs=>cases m with
     |own e=>exact absurd ⟨e,nl,n,cs,rfl⟩ ho
     |plain=>exact hf
     |clip=>exact hf
    |_=>exact hf
   exact z0lc hm d v _ _ hf' hr fun e nl n cs he=>absurd ⟨e,nl,n,cs,he⟩ ho
 have hkp:z9d base.S0 base.w0 g'.S w:=fun b' i x hi hc=>by
  have hlt:b'<base.w0.heap.size:=World.block_lt_of_cell? base.w0 ⟨b',i,none⟩ hc
  have hne:b'≠b:=fun e=>by subst e;rcases hge with h|⟨_,h⟩<;>omega
  obtain⟨k1,k2⟩:=hI.kp b' i x hi hc
  exact⟨by simp only[g',if_neg hne];exact k1,k2⟩
 refine⟨bs,e,nl,k,cs,cap,rfl,hget,hle,hlen,fun c xs hcx=> ?_⟩
 have hgetB:∀j,({st with box:=(b0,some (bs.set i0 (.bv id e 0 k c)))::(id,some (cs++xs))::st.box}:ASt).getB j=if j=b0 then some (bs.set i0 (.bv id e 0 k c)) else if j=id then some (cs++xs) else st.getB j:=fun j=>by
  simp only[ASt.getB,lk]
  split
  ·rfl
  ·split<;>rfl
 have hbox:∀j ds,j≠b0→st.getB j=some ds→∀c∈ds,z5p c=true:=fun j ds hj hds=>by
  simp only[ASt.getB] at hds
  cases hl:lk st.box j with
  |none=>rw[hl] at hds;cases hds
  |some o=>rw[hl] at hds;simp only[Option.join_some] at hds;exact(hfb _ (z15a hl) ds hds).resolve_left hj
 have hI':Inv K base g' w ({st with box:=(b0,some (bs.set i0 (.bv id e 0 k c)))::(id,some (cs++xs))::st.box}:ASt).getB:=by
  refine⟨hI.fr,fun b' hb' hw=> ?_,fun i j x hi hj=> ?_,fun j ds hj=> ?_,fun j hj=> ?_,fun j x hx=> ?_,fun x l hx=> ?_,fun m hm'=>z4b.mono hkp _ _ _ (hF.2 m hm'),hkp,fun j x ds ho hb' hc hd=> ?_,fun j x h1 h2 hx=>by
   simp only[g'] at hx
   split at hx
   ·subst_vars;exact hid.no h1 h2
   ·exact hI.old j x h1 h2 hx⟩
  ·have hne:b'≠b:=fun e=>by
    subst e
    rcases hge with h|⟨h,_⟩
    ·omega
    ·exact hw h
   simp only[g',if_neg hne]
   exact hI.sS b' hb' hw
  ·simp only[g'] at hi hj
   split at hi
   ·cases hi
    split at hj
    ·subst_vars;rfl
    ·exact absurd hj (hmub j)
   ·split at hj
    ·cases hj;exact absurd hi (hmub i)
    ·exact hI.inj i j x hi hj
  ·rw[hgetB] at hj
   split at hj
   ·rename_i he
    subst he
    cases hj
    have hxb:bb≠b:=fun e=>hmub j (e▸hbb)
    refine⟨bb,by simp only[g',if_neg hne0];exact hbb,by simp only[g',if_neg hxb];exact hSbb,fun i d hi=> ?_⟩
    rw[List.getElem?_set] at hi
    split at hi
    ·rename_i he
     subst he
     first|(rw[if_pos hilt] at hi;cases hi)|cases hi
     refine⟨⟨v,hvc,?_⟩,hfzv⟩
     simp only[Rep]
     exact⟨b,cap,0,by simp[g'],hv,hle,by rcases hcx with⟨_,h,_⟩|⟨h,_⟩<;>omega,.inl rfl,fun h=>by rcases hcx with⟨_,_,h2⟩|⟨h2,_⟩<;>omega⟩
    ·rename_i hne
     obtain⟨⟨y,h4,h5⟩,h6⟩:=hcellsB i d hi
     have hd:z5p d=true:=hfc bs hgb d (List.mem_of_getElem? (i:=i) (by rw[List.getElem?_set,if_neg hne];exact hi))
     exact⟨⟨y,h4,top (by simpa using fun h=>hne h.symm) hd h5⟩,h6⟩
   ·rename_i hnb
    split at hj
    ·rename_i he
     subst he
     cases hj
     refine⟨b,by simp[g'],by simp[g'],fun i d hi=> ?_⟩
     have hi0:=hi
     by_cases hic:i<cs.length
     rotate_left
     ·rw[List.getElem?_append_right (by omega)] at hi
      rcases hcx with⟨rfl,_⟩|⟨_,rfl⟩
      ·cases hi
      ·obtain⟨hr1,hr2⟩:=List.getElem?_eq_some_iff.1 hi
       rw[List.getElem_replicate] at hr2
       subst hr2
       rw[List.length_replicate,Nat.sub_mul] at hr1
       have hkc:k*e≤cap*e:=Nat.mul_le_mul_right _ hle
       obtain⟨h8,h9⟩:=hth i (by omega)
       rw[Nat.zero_add] at h8 h9
       obtain⟨y,hy⟩:=Option.isSome_iff_exists.1 h8
       exact⟨⟨y,hy,by simp[Rep]⟩,h9⟩
     rw[List.getElem?_append_left hic] at hi
     obtain⟨_,x,hx,hr⟩:=hcells.get i d hi
     rw[Nat.zero_add] at hx
     have hilt:i<k*e:=by omega
     have hkc:k*e≤cap*e:=Nat.mul_le_mul_right _ hle
     have hfz:=(hth i (by omega)).2
     rw[Nat.zero_add] at hfz
     refine⟨⟨x,hx,?_⟩,hfz⟩
     have hmd:z6c d=true:=z1Ob hmf (z9va hi)
     exact z2Va (g:=g) d x none _ hmd (z9b.rep (g:=g) d x hr)
    ·rename_i hne
     obtain⟨x,k1,k2,k3⟩:=hI.bxok j ds hj
     have hxb:x≠b:=fun e=>hmub j (e▸k1)
     refine⟨x,by simp only[g',if_neg hne];exact k1,by simp only[g',if_neg hxb];exact k2,fun i d hi=> ?_⟩
     obtain⟨⟨y,h4,h5⟩,h6⟩:=k3 i d hi
     exact⟨⟨y,h4,top (by simp only[ne_eq,Loc.cell.injEq,not_and];exact fun h=>absurd h hnb) (hbox j ds hnb hj d (z9va hi)) h5⟩,h6⟩
  ·rw[hgetB] at hj
   split at hj
   ·cases hj
   ·split at hj
    ·cases hj
    ·rename_i hne
     simp only[g',if_neg hne]
     exact hI.nobx j hj
  ·simp only[g'] at hx
   split at hx
   ·cases hx
    exact⟨hge.imp (fun h=>h) (·.1),hbsz,by simp[g']⟩
   ·obtain⟨h1,h2,h3⟩:=hI.muW j x hx
    have hxb:x≠b:=fun e=>hmub j (e▸hx)
    exact⟨h1,h2,by simp only[g',if_neg hxb];exact h3⟩
  ·simp only[g'] at hx
   split at hx
   ·cases hx
   ·exact hI.owW x l hx
  ·have hne:j≠id:=fun e=>by have:=hid.lt;omega
   have hnb:j≠b0:=fun e=>by omega
   rw[hgetB,if_neg hnb,if_neg hne] at hc
   simp only[g',if_neg hne] at hb'
   refine z8t.keep (hI.obok j x ds ho hb' hc hd) rfl fun q hq=>⟨?_,rfl⟩
   have hqb:q≠b:=fun e=>by rw[e,how] at hq;cases hq;exact hnb rfl
   simp only[g',if_neg hqb];exact hq
 refine⟨g',hI',fun t=> ?_,hO,h⟩
 have hgt:({st with box:=(b0,some (bs.set i0 (.bv id e 0 k c)))::(id,some (cs++xs))::st.box}:ASt).get t=st.get t:=rfl
 rw[hgt]
 unfold ASt.get
 cases hlt:lk st.env t with
 |some d=>
  have:=hS t
  unfold ASt.get at this
  rw[hlt] at this
  exact top (by simp) (hfe _ (z15a hlt)) this
 |none=>
  cases hs:lk st.org t with
  |none=>simp[Abs.dem,Rep]
  |some d=>exact z9b.dem (g:=g') _ (z9b.mono (z7Ba hI') d _ (hO t d hs))
theorem z9Nc (b0 i0 id:Nat) (hF:z4Qb K base) (hR:Rel K base n st a w) (hok:z9i (.thawB b0 i0 id) st):Rel K base n (z1b (.thawB b0 i0 id) st) a w:=by
 obtain⟨bs,e,nl,k,cs,cap,hgb,hget,hle,hlen,H⟩:=z90b b0 i0 id hF hR ⟨.inl hok.1,hok.2⟩
 have hrun:z1b (.thawB b0 i0 id) st={st with box:=(b0,some (bs.set i0 (.bv id e 0 k k)))::(id,some (cs++[]))::st.box}:=by
  simp only[z1b,hgb,hget,List.append_nil]
 rw[hrun]
 exact H k [] (.inl ⟨rfl,rfl,by have:=hok.1;omega⟩)
theorem z3gc (s t:Nat) {V:Value} (hR:Rel K base n st a w) (hok:z9W s t st V):∃V',z1pd V'=z1pd V∧Rel K base n (z72 s t V' st) a w:=by
 obtain⟨g,hI,hS,hO,h⟩:=hR
 obtain⟨id,hl,⟨e1,o1,n1,c1,h1⟩,e2,o2,n2,c2,h2⟩:=hok
 have r1:=hS s
 have r2:=hS t
 rw[h1] at r1
 rw[h2] at r2
 simp only[Rep] at r1 r2
 obtain⟨b1,k1,p1,m1,v1,_⟩:=r1
 obtain⟨b2,k2,p2,m2,v2,_⟩:=r2
 have hV:=hO s _ hl
 simp only[z9b] at hV
 rw[m1] at m2
 cases m2
 refine⟨a.tmps.getD t undef,?_,g,hI,fun x=> ?_,fun x d hx=> ?_,h⟩
 ·rw[v2,←hV,v1];rfl
 ·have hg:(z72 s t (a.tmps.getD t undef) st).get x=st.get x:=by
   by_cases hs:x=s
   ·subst hs
    show(match lk ((x,st.get x)::_) x with|some d=>d|none=>_)=_
    simp[lk]
   ·by_cases ht:x=t
    ·subst ht
     show(match lk ((s,_)::(x,st.get x)::_) x with|some d=>d|none=>_)=_
     simp[lk,hs]
    ·have ho:lk ((t,z0a.lit (a.tmps.getD t undef))::st.org.filter fun p=>decide (p.1≠s)) x=lk st.org x:=by
      rw[lk,if_neg ht,z2za (fun k=>decide (k≠s))]
      simp[hs]
     show(match lk ((s,_)::(t,_)::st.env) x with|some d=>d|none=>dem ((lk ((t,z0a.lit (a.tmps.getD t undef))::st.org.filter fun p=>decide (p.1≠s)) x).getD .undef))=_
     rw[ho]
     simp only[lk,if_neg hs,if_neg ht]
     rfl
  rw[hg]
  exact hS x
 ·have hx':lk ((t,z0a.lit (a.tmps.getD t undef))::st.org.filter fun p=>decide (p.1≠s)) x=some d:=hx
  by_cases ht:x=t
  ·subst ht
   rw[lk,if_pos rfl] at hx'
   cases hx'
   simp[z9b]
  ·rw[lk,if_neg ht,z2za (fun k=>decide (k≠s))] at hx'
   split at hx'
   ·exact hO x d hx'
   ·cases hx'
theorem z8Qc (b:Option Nat) (i id:Nat) (hF:z4Qb K base) (hR:Rel K base n st a w) (hok:z63 b i id st):∃m,Rel K base n (z40 b i id m st) a w:=by
 cases b with
 |none=>
  obtain⟨e,nl,k,cs,cap,hget,hle,hlen,H⟩:=z89b i id hF hR hok
  refine⟨cap-k,?_⟩
  have hrun:z40 none i id (cap-k) st={st with env:=(i,.bv id e 0 k (k+(cap-k)))::st.env,box:=(id,some (cs++List.replicate ((cap-k)*e) .undef))::st.box}:=by
   simp only[z40,hget]
  rw[hrun]
  exact H _ _ (.inr ⟨by omega,rfl⟩)
 |some b=>
  obtain⟨bs,e,nl,k,cs,cap,hgb,hget,hle,hlen,H⟩:=z90b b i id hF hR hok
  refine⟨cap-k,?_⟩
  have hrun:z40 (some b) i id (cap-k) st={st with box:=(b,some (bs.set i (.bv id e 0 k (k+(cap-k)))))::(id,some (cs++List.replicate ((cap-k)*e) .undef))::st.box}:=by
   simp only[z40,hgb,hget]
  rw[hrun]
  exact H _ _ (.inr ⟨by omega,rfl⟩)
theorem z7Vc (s:Nat) (hR:Rel K base n st a w):Rel K base n (z1b (.unorg s) st) a w:=by
 obtain⟨g,hI,hS,hO,h⟩:=hR
 have horg:∀t,lk (z1b (.unorg s) st).org t=if t=s then none else lk st.org t:=fun t=>by
  show lk (st.org.filter fun p=>decide (p.1≠s)) t=_
  rw[z2za (fun k=>decide (k≠s))]
  by_cases ht:t=s<;>simp[ht]
 refine⟨g,hI,fun t=> ?_,fun t d ht=> ?_,h⟩
 ·have:(z1b (.unorg s) st).get t=st.get t:=by
   by_cases ht:t=s
   ·subst ht
    show(match lk ((t,st.get t)::st.env) t with|some d=>d|none=>_)=_
    simp[lk]
   ·unfold ASt.get
    rw[horg,if_neg ht]
    show(match lk ((s,_)::st.env) t with|some d=>d|none=>_)=_
    simp only[lk,if_neg ht]
    cases lk st.env t<;>rfl
  rw[this]
  exact hS t
 ·rw[horg] at ht
  split at ht
  ·cases ht
  ·exact hO t d ht
theorem z9Rc (b i:Nat) (hR:Rel K base n st a w) (hok:z9i (.hideB b i) st):Rel K base n (z1b (.hideB b i) st) a w:=by
 obtain⟨g,hI,hS,hO,h⟩:=hR
 have hlt:b<1000000:=hok
 cases hb:st.getB b with
 |none=>
  have:z1b (.hideB b i) st=st:=by simp only[z1b,hb]
  rw[this]
  exact⟨g,hI,hS,hO,h⟩
 |some bs=>
  have hrun:z1b (.hideB b i) st={st with box:=(b,some (bs.set i .undef))::st.box}:=by simp only[z1b,hb]
  rw[hrun]
  have hgetB:∀j,({st with box:=(b,some (bs.set i .undef))::st.box}:ASt).getB j=if j=b then some (bs.set i .undef) else st.getB j:=fun j=>by
   show(lk ((b,some (bs.set i .undef))::st.box) j).join=_
   by_cases hj:j=b
   ·simp[lk,hj]
   ·simp only[lk,if_neg hj];rfl
  refine⟨g,⟨hI.fr,hI.sS,hI.inj,fun id cs hc=> ?_,fun id hid=> ?_,hI.muW,hI.owW,hI.glob,hI.kp,fun id x cs ho hx hc hd=> ?_,hI.old⟩,fun s=>hS s,hO,h⟩
  ·rw[hgetB] at hc
   split at hc
   ·rename_i hj
    cases hc
    subst hj
    obtain⟨k,k1,k2,k3⟩:=hI.bxok id bs hb
    refine⟨k,k1,k2,fun t d hd=> ?_⟩
    rw[List.getElem?_set] at hd
    split at hd
    ·split at hd
     ·rename_i hti hl
      cases hd
      subst hti
      obtain⟨⟨x,h4,_⟩,h6⟩:=k3 i _ (List.getElem?_eq_getElem hl)
      exact⟨⟨x,h4,by simp[Rep]⟩,h6⟩
     ·cases hd
    ·exact k3 t d hd
   ·exact hI.bxok id cs hc
  ·rw[hgetB] at hid
   split at hid
   ·cases hid
   ·exact hI.nobx id hid
  ·rw[hgetB,if_neg (by omega)] at hc
   exact hI.obok id x cs ho hx hc hd

theorem z3Cc {K:Con} {g:Gh} {w:World} {l:Option Loc} (o:Option Nat) {c:z0a} {v:Value} (h:Rep K g w l c v):Rep K g w l (z1m o c) v:=by
 cases o with
 |none=>exact Rep.dem l h
 |some e=>
  unfold z1m
  simp only
  split
  ·simp only[Rep,z9b] at h⊢
   rcases h with⟨b,o,cap,_,_,_,h4,_⟩|⟨q,h1,_,_,_⟩
   ·exact absurd rfl h4
   ·exact⟨.inr ⟨q,h1,by simp⟩,fun l' _=> .inl (.inr ⟨⟨q,h1⟩,by simp⟩)⟩
  ·exact h
theorem z3vd (b i:Nat) (o:Option Nat) (hR:Rel K base n st a w) (hok:z9i (.reB b i o) st):Rel K base n (z1b (.reB b i o) st) a w:=by
 obtain⟨g,hI,hS,hO,h⟩:=hR
 have hlt:b<1000000:=hok
 cases hb:st.getB b with
 |none=>
  have:z1b (.reB b i o) st=st:=by simp only[z1b,hb]
  rw[this]
  exact⟨g,hI,hS,hO,h⟩
 |some bs=>
  have hrun:z1b (.reB b i o) st={st with box:=(b,some (bs.set i (z1m o (bs.getD i .undef))))::st.box}:=by simp only[z1b,hb]
  rw[hrun]
  have hgetB:∀j,({st with box:=(b,some (bs.set i (z1m o (bs.getD i .undef))))::st.box}:ASt).getB j=if j=b then some (bs.set i (z1m o (bs.getD i .undef))) else st.getB j:=fun j=>by
   show(lk ((b,some (bs.set i (z1m o (bs.getD i .undef))))::st.box) j).join=_
   by_cases hj:j=b
   ·simp[lk,hj]
   ·simp only[lk,if_neg hj];rfl
  refine⟨g,⟨hI.fr,hI.sS,hI.inj,fun id cs hc=> ?_,fun id hid=> ?_,hI.muW,hI.owW,hI.glob,hI.kp,fun id x cs ho hx hc hd=> ?_,hI.old⟩,fun s=>hS s,hO,h⟩
  ·rw[hgetB] at hc
   split at hc
   ·rename_i hj
    cases hc
    subst hj
    obtain⟨k,k1,k2,k3⟩:=hI.bxok id bs hb
    refine⟨k,k1,k2,fun t d hd=> ?_⟩
    rw[List.getElem?_set] at hd
    split at hd
    ·split at hd
     ·rename_i hti hl
      cases hd
      subst hti
      have hgi:bs.getD i .undef=bs[i]:=by simp[List.getD,List.getElem?_eq_getElem hl]
      rw[hgi]
      obtain⟨⟨x,h4,h5⟩,h6⟩:=k3 i _ (List.getElem?_eq_getElem hl)
      exact⟨⟨x,h4,z3Cc o h5⟩,h6⟩
     ·cases hd
    ·exact k3 t d hd
   ·exact hI.bxok id cs hc
  ·rw[hgetB] at hid
   split at hid
   ·cases hid
   ·exact hI.nobx id hid
  ·rw[hgetB,if_neg (by omega)] at hc
   exact hI.obok id x cs ho hx hc hd

theorem z1La (gh:z0h) (hF:gh.cold=true) (hR:Rel K base n st a w) (hok:z9i gh st):Rel K base n (z1b gh st) a w:=by
 cases gh with
 |thaw s id=>cases hF
 |thawB b i id=>cases hF
 |rebase ks=>cases hF
 |cool s id=>cases hF
 |coolB b i id=>cases hF
 |unorg s=>exact z7Vc s hR
 |hideB b i=>exact z9Rc b i hR hok
 |reB b i o=>exact z3vd b i o hR hok
 |keep l=>exact z0La l hR
 |drop ids=>exact z0dd ids hR hok
 |freeze ids=>exact z0Cc ids hR hok
 |norm ids=>
  obtain⟨g,hI,h⟩:=hR
  refine⟨g,?_,h⟩
  have:(z1b (.norm ids) st).getB=st.getB:=funext fun id=>by
   have e:(z1b (.norm ids) st).getB id=(lk (ids.map fun id=>(id,st.getB id)) id).join:=rfl
   rw[e]
   have:∀l:List Nat,lk (l.map fun id=>(id,st.getB id)) id=if id∈l then some (st.getB id) else none:=fun l=>by
    induction l with
    |nil=>simp[lk]
    |cons t l ih=>
     simp only[List.map_cons,lk,ih,List.mem_cons]
     by_cases h:id=t
     ·subst h;simp
     ·simp[h]
   rw[this]
   by_cases hi:id∈ids
   ·rw[if_pos hi];rfl
   ·rw[if_neg hi]
    have:lk st.box id=none:=z5f fun p hp e=>hi (e▸hok p hp)
    simp[ASt.getB,this]
  rw[this]
  exact hI

theorem z5Lb:∀(gs:List z0h) {st:ASt},gs.all z0h.cold=true→Rel K base n st a w→z6S gs st→Rel K base n (z6q gs st) a w
 |[],_,_,hR,_=>hR
 |g::gs,_,hF,hR,hok=>z5Lb gs (by simp only[List.all_cons,Bool.and_eq_true] at hF;exact hF.2) (z1La g (by simp only[List.all_cons,Bool.and_eq_true] at hF;exact hF.1) hR hok.1) hok.2

end
end Go.Abs
end

section
set_option linter.unusedVariables false
namespace Go.Abs

def mark (D:Nat):Deferred:={target:= .collected D,args:= #[]}
structure z3I (K:Cx) (base base':z4f):Prop where
 inv:∀g w bx,Inv K base' g w bx→Inv K base g w bx
 org:z9d base.S base.w0 base'.S base'.w0
 fr:Fr base.w0.heap.size base.W base.w0 base'.w0
 wr:∀b,base'.W b→b<base.w0.heap.size→base.W b
 marks:∃ms:List Nat,base'.dl=ms.map mark++base.dl∧ms.Nodup∧(∀D∈ms,base.w0.heap.size≤D∧D<base'.w0.heap.size)∧
  ∀g w bx,Inv K base' g w bx→∀D∈ms,(g.S D=0∧(∀id,g.mu id≠some D)∧g.ow D=none)∧D<w.heap.size∧w.heap[D]? =some (.deferred (some []))

theorem z3I.refl (K:Cx) (base:z4f):z3I K base base:=
 ⟨fun _ _ _ h=>h,z9d.refl _ _,Fr.refl _ _ _,fun _ h _=>h,[],rfl,List.nodup_nil,by simp,fun _ _ _ _ D hD=>by cases hD⟩
theorem z3I.trans {K:Cx} {a b c:z4f} (h:z3I K a b) (k:z3I K b c):z3I K a c:=by
 obtain⟨ms,e1,n1,h1,i1⟩:=h.marks
 obtain⟨ms',e2,n2,h2,i2⟩:=k.marks
 refine⟨fun g w bx hi=>h.inv g w bx (k.inv g w bx hi),h.org.trans k.org,h.fr.trans (k.fr.mono h.fr.size fun x hx hw=>h.wr x hw hx),fun x hw hx=>h.wr x (k.wr x hw (Nat.lt_of_lt_of_le hx h.fr.size)) hx,ms'++ms,?_,?_,?_,?_⟩
 ·rw[e2,e1,List.map_append,List.append_assoc]
 ·refine List.nodup_append.2 ⟨n2,n1,fun x hx y hy e=> ?_⟩
  subst e
  have:=(h2 x hx).1
  have:=(h1 x hy).2
  omega
 ·intro D hD
  rcases List.mem_append.1 hD with hD|hD
  ·exact⟨Nat.le_trans h.fr.size (h2 D hD).1,(h2 D hD).2⟩
  ·exact⟨(h1 D hD).1,Nat.lt_of_lt_of_le (h1 D hD).2 k.fr.size⟩
 ·intro g w bx hi D hD
  rcases List.mem_append.1 hD with hD|hD
  ·exact i2 g w bx hi D hD
  ·exact i1 g w bx (k.inv g w bx hi) D hD

def z2Mb (K:Cx) (base:z4f) (n:Nat) (Q:z5c→ASt→Prop):Exit→Act→World→Prop
 | .normal,a,w=>∃base',z3I K base base'∧∃st,Rel K base' n st a w∧Q .normal st
 | .exit id,a,w=>∃base',z3I K base base'∧∃st,Rel K base' n st a w∧Q (.exit id) st
 | .ret,a,w=>∃base',z3I K base base'∧∃st,Rel K base' n st a w∧Q .ret st
 |_,_,_=>False
theorem z8gc {K:Cx} {base base':z4f} {n:Nat} {Q:z5c→ASt→Prop} (h:z3I K base base'):∀e a w,z2Mb K base' n Q e a w→z2Mb K base n Q e a w:=by
 intro e a w hl
 cases e<;>simp only[z2Mb] at hl⊢
 all_goals (obtain⟨b,hb,r⟩:=hl;exact⟨b,h.trans hb,r⟩)
def z4n (g:Gh) (b:Nat):Prop:=g.S b=0∧(∀id,g.mu id≠some b)∧g.ow b=none
theorem z4n.wr {g:Gh} {b:Nat} (h:z4n g b):¬Wr g b:=by
 rintro(⟨id,hi⟩|ho)
 ·exact h.2.1 id hi
 ·exact ho h.2.2

section
variable {K : Cx} {base : z4f} {g g' : Gh} {A B : World} {bx bx' : Nat → Option (List z0a)} {O : Nat → Prop} {dl : List Deferred}

theorem z3q (hfr:Fr A.heap.size O A B) (h:∀b,O b→z4n g b):z9d g.S A g.S B:=fun b i x hi hc=>by
 have hb:b<A.heap.size:=World.block_lt_of_cell? A ⟨b,i,none⟩ hc
 have hO:¬O b:=fun ho=>by have:=(h b ho).1;omega
 refine⟨hi,?_⟩
 rw[World.cell?_of_block (w:=A) (a:=⟨b,i,none⟩) (hfr.block b hb hO)]
 exact hc
theorem z7W (hfr:Fr A.heap.size O A B) (h:∀b,O b→z4n g b) (hlt:∀b l,g.ow b=some l→b<A.heap.size) (m:Loc):z8f g A g B m m:=fun b hb=>by
 refine⟨hb,rfl,fun o n ht=>z9q (hfr.block b (hlt b m hb) fun ho=> ?_) ht⟩
 have:=(h b ho).2.2
 rw[hb] at this;cases this
theorem z1D (hfr:Fr A.heap.size O A B) (h:∀b,O b→z4n g b) (hlt:∀b l,g.ow b=some l→b<A.heap.size) {d:z0a} {v:Value} {l:Option Loc} (hr:Rep K.toCon g A l d v):Rep K.toCon g B l d v:=
 Rep.mono (z3q hfr h) d v l l (fun _ _ _ hb=>hb) (fun m hm=>⟨m,hm,z7W hfr h hlt m⟩) hr

theorem z2Y (hI:Inv K base g A bx) (hfr:Fr A.heap.size O A B) (h:∀b,O b→z4n g b∧(base.w0.heap.size≤b∨base.W b)):Inv K base g B bx:=by
 have h1:∀b,O b→z4n g b:=fun b hb=>(h b hb).1
 have hlt:∀b l,g.ow b=some l→b<A.heap.size:=fun b l hb=>(hI.owW b l hb).2
 have hk:=z3q hfr h1
 refine⟨hI.fr.trans (hfr.mono hI.fr.size fun k hk ho=> ?_),hI.sS,hI.inj,fun id cs hc=> ?_,hI.nobx,fun id b hb=> ?_,fun b l hl=> ?_,fun n hn=>z4b.mono hk _ _ _ (hI.glob n hn),hI.kp.trans hk,fun id b cs ho hb hc hd=>z8t.keep (hI.obok id b cs ho hb hc hd) (hfr.block b (hI.muW id b hb).2.1 fun hO=>(h1 b hO).2.1 id hb) fun k hk'=>⟨hk',hfr.block k (hlt k _ hk') fun hO=>by have:=(h1 k hO).2.2;rw[hk'] at this;cases this⟩,hI.old⟩
 ·rcases(h k ho).2 with h2|h2
  ·omega
  ·exact h2
 ·obtain⟨b,k1,k2,k3⟩:=hI.bxok id cs hc
  have hbk:B.heap[b]? =A.heap[b]? :=hfr.block b (hI.muW id b k1).2.1 fun ho=>(h1 b ho).2.1 id k1
  refine⟨b,k1,k2,fun i d hi=> ?_⟩
  obtain⟨⟨x,hx,hr⟩,hz⟩:=k3 i d hi
  refine⟨⟨x,?_,z1D hfr h1 hlt hr⟩,?_⟩
  ·rw[World.cell?_of_block (w:=A) (a:=⟨b,i,none⟩) hbk];exact hx
  ·simp only[World.frozen?,hbk] at hz⊢;exact hz
 ·obtain⟨k1,k2,k3⟩:=hI.muW id b hb
  exact⟨k1,Nat.lt_of_lt_of_le k2 hfr.size,k3⟩
 ·obtain⟨k1,k2⟩:=hI.owW b l hl
  exact⟨k1,Nat.lt_of_lt_of_le k2 hfr.size⟩

theorem z8sb (hI:Inv K base g A bx) {b:Nat} (h:Wr g b):base.w0.heap.size≤b∨base.W b:=by
 rcases h with⟨id,hi⟩|ho
 ·exact(hI.muW id b hi).1
 ·cases hl:g.ow b with
  |none=>exact absurd hl ho
  |some l=>exact(hI.owW b l hl).1
theorem rebase (hI:Inv K base g A bx):Inv K ⟨A,Wr g,g.S,dl,base.mu0⟩ g A bx:=
 ⟨Fr.refl _ _ _,fun _ _ _=>rfl,hI.inj,hI.bxok,hI.nobx,fun id b hb=>⟨.inr (.inl ⟨id,hb⟩),(hI.muW id b hb).2⟩,fun b l hl=>⟨.inr (.inr (by rw[hl];simp)),(hI.owW b l hl).2⟩,hI.glob,z9d.refl _ _,hI.obok,hI.old⟩
theorem z3zc (hI:Inv K base g A bx) (h:Inv K ⟨A,Wr g,g.S,dl,base.mu0⟩ g' B bx'):Inv K base g' B bx':=by
 have hw:∀b,(A.heap.size≤b∨Wr g b)→base.w0.heap.size≤b∨base.W b:=fun b hb=>by
  rcases hb with hb|hb
  ·exact .inl (Nat.le_trans hI.fr.size hb)
  ·exact z8sb hI hb
 refine⟨hI.fr.trans (h.fr.mono hI.fr.size fun k hk hwk=> ?_),fun b hb hnw=> ?_,h.inj,h.bxok,h.nobx,fun id b hb=> ?_,fun b l hl=> ?_,h.glob,hI.kp.trans h.kp,h.obok,h.old⟩
 ·rcases z8sb hI hwk with hx|hx
  ·omega
  ·exact hx
 ·have h1:¬Wr g b:=fun hx=>by
   rcases z8sb hI hx with hy|hy
   ·omega
   ·exact hnw hy
  rw[h.sS b (Nat.lt_of_lt_of_le hb hI.fr.size) h1]
  exact hI.sS b hb hnw
 ·obtain⟨k1,k2⟩:=h.muW id b hb
  exact⟨hw b k1,k2⟩
 ·obtain⟨k1,k2⟩:=h.owW b l hl
  exact⟨hw b k1,k2⟩
theorem z5gb (hI:Inv K base g A bx):z9d base.S base.w0 (z4f.S ⟨A,Wr g,g.S,dl,base.mu0⟩) A:=fun b i x hi hc=>by
 have hb:b<base.w0.heap.size:=World.block_lt_of_cell? base.w0 ⟨b,i,none⟩ hc
 unfold z4f.S at hi
 split at hi
 ·rename_i h
  have h1:¬Wr g b:=fun hx=>by
   rcases z8sb hI hx with hy|hy
   ·omega
   ·exact h.2 hy
  refine⟨?_,?_⟩
  ·unfold z4f.S
   rw[if_pos ⟨Nat.lt_of_lt_of_le hb hI.fr.size,h1⟩]
   show i<g.S b
   rw[hI.sS b h.1 h.2]
   exact hi
  ·rw[World.cell?_of_block (w:=base.w0) (a:=⟨b,i,none⟩) (hI.fr.block b h.1 h.2)]
   exact hc
 ·omega
theorem z8zb (h:Inv K ⟨A,Wr g,g.S,dl,base.mu0⟩ g' B bx') {b:Nat} (hb:b<A.heap.size) (ha:z4n g b):z4n g' b:=by
 refine⟨?_,fun id hi=> ?_,?_⟩
 ·rw[h.sS b hb ha.wr];exact ha.1
 ·rcases(h.muW id b hi).1 with h1|h1
  ·exact absurd hb (Nat.not_lt.2 h1)
  ·exact ha.wr h1
 ·cases hl:g'.ow b with
  |none=>rfl
  |some l=>
   rcases(h.owW b l hl).1 with h1|h1
   ·exact absurd hb (Nat.not_lt.2 h1)
   ·exact absurd h1 ha.wr
theorem z8kb (h:Inv K ⟨A,Wr g,g.S,dl,base.mu0⟩ g' B bx') {b:Nat} (hb:b<A.heap.size) (ha:z4n g b):B.heap[b]? =A.heap[b]? :=h.fr.block b hb ha.wr
theorem z1Fc (hI:Inv K base g A bx) (ms:List Nat) (hn:ms.Nodup) (hm:∀D∈ms,base.w0.heap.size≤D∧D<A.heap.size∧z4n g D∧A.heap[D]? =some (.deferred (some []))):z3I K base ⟨A,Wr g,g.S,ms.map mark++base.dl,base.mu0⟩:=
 ⟨fun g' w bx' h=>z3zc hI h,z5gb hI,hI.fr,fun b hw hb=>(z8sb hI hw).resolve_left (by omega),ms,rfl,hn,fun D hD=>⟨(hm D hD).1,(hm D hD).2.1⟩,fun g' w bx' h D hD=>by
  obtain⟨k1,k2,k3,k4⟩:=hm D hD
  exact⟨z8zb h k2 k3,Nat.lt_of_lt_of_le k2 h.fr.size,by rw[z8kb h k2 k3];exact k4⟩⟩
end
end Go.Abs
end
