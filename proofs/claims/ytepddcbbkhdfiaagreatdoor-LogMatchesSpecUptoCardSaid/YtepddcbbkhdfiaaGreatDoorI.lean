/- Lemmas: an abstract interpreter, and what the functions compute. -/
import Derived.Test.YtepddcbbkhdfiaaGreatDoorG
import Derived.Test.YtepddcbbkhdfiaaGreatDoorH
import Derived.Test.YtepddcbbkhdfiaaGreatDoorF
set_option linter.unusedSimpArgs false
set_option linter.unusedVariables false
set_option linter.unusedSectionVars false
section
namespace Go.Abs
set_option maxRecDepth 100000
end Go.Abs
end

section
namespace Go.Abs

/-! ### strings.Builder -/
@[simp] theorem z5oa (id:Nat) (c x:z0a) (xs:List z0a):z8j 0 id c x xs={val:=i64 (z7e c)}:=rfl
@[simp] theorem z2ka (id:Nat) (c x:z0a) (xs:List z0a):z8j 1 id c x xs={val:= .tup [i64 (z7e x),.lit .nilIface],bx:=[(id,some [.undef,.sl (.own 1) none (z7e c+z7e x) (z0c [] c++xs)])]}:=rfl
@[simp] theorem z3ma (id:Nat) (c x:z0a) (xs:List z0a):z8j 2 id c x xs={val:= .tup [i64 (z7e x),.lit .nilIface],bx:=[(id,some [.undef,.sl (.own 1) none (z7e c+z7e x) (z0c [] c++xs)])]}:=rfl
@[simp] theorem z0la (id:Nat) (nl:Option Bool) (n:Nat) (l:List UInt8) (x:z0a) (xs:List z0a):z8j 3 id (.sl (.own 1) nl n (bys l)) x xs={val:=st l,bx:=[(id,some [])]}:=by
 show({val:= .lit (.string (z9e (z3i l))),bx:=_}:Eff)=_
 rw[z4j]
 rfl
theorem kT {E:Env} {c:Arg} {a b:z1c} {Q:z5c→ASt→Prop} {s:ASt} (h:arg E s.get c=bo true):awp E (.cond c a b) Q s=awp E a Q s:=by
 rw[z4h,h];simp
theorem kF {E:Env} {c:Arg} {a b:z1c} {Q:z5c→ASt→Prop} {s:ASt} (h:arg E s.get c=bo false):awp E (.cond c a b) Q s=awp E b Q s:=by
 rw[z4h,h];simp

/-! ### Iterators -/
theorem z9Jc {f:Nat×Bool→ASt→Prop} {Q:IQ} {p:Nat×Bool}:(fun e st'=>z5mc f Q e p st')=z2l (fun st'=>f p st') (fun e st'=>Q e p st'):=by
 funext e st'
 cases e<;>rfl
@[simp] theorem z69d (E:Env) (l:Nat) (el:Nat→Option (List z0a)) (c:z1c) (Q:IQ) (p:Nat×Bool) (s:ASt):z0sb E l el (.plain c) Q p s=awp E c (fun e st'=>Q e p st') s:=rfl
@[simp] theorem z1ce (E:Env) (l:Nat) (el:Nat→Option (List z0a)) (c:z1c) (b:z66a) (Q:IQ) (p:Nat×Bool) (s:ASt):z0sb E l el (.seq (.plain c) b) Q p s=awp E c (z2l (fun st'=>z0sb E l el b Q p st') (fun e st'=>Q e p st')) s:=by
 simp only[z0sb,z9Jc]
@[simp] theorem z4Yd (E:Env) (l:Nat) (el:Nat→Option (List z0a)) (i:Nat) (b:z66a) (Q:IQ) (p:Nat×Bool) (s:ASt):z0sb E l el (.block i b) Q p s=z0sb E l el b (z56b i Q) p s:=rfl
@[simp] theorem z7od (f:Nat×Bool→ASt→Prop) (Q:IQ) (p:Nat×Bool) (s:ASt):z5mc f Q .normal p s=f p s:=rfl
@[simp] theorem z7Nd (f:Nat×Bool→ASt→Prop) (Q:IQ) (i:Nat) (p:Nat×Bool) (s:ASt):z5mc f Q (.exit i) p s=Q (.exit i) p s:=rfl
@[simp] theorem z6ld (i:Nat) (Q:IQ) (p:Nat×Bool) (s:ASt):z56b i Q .normal p s=Q .normal p s:=rfl
@[simp] theorem z2Md (i:Nat) (Q:IQ) (p:Nat×Bool) (s:ASt):z56b i Q (.exit i) p s=Q .normal p s:=by simp[z56b]
def z9Pd (E:Env) (f:ASt→Prop):List z6a→ASt→Prop
 |[],st=>f st
 |o::os,st=>okA E o st∧z9Pd E f os (z9a E o st)
attribute [simp] z9Pd
theorem z5Xc (E:Env) (f:ASt→Prop):∀(xs:List z6a) (st:ASt),z9Pd E f xs st=(z5t E xs st∧f (z8I E xs st))
 |[],st=>by simp only[z9Pd,z5t,z8I,true_and]
 |o::os,st=>by simp only[z9Pd,z5t,z8I,z5Xc E f os];exact propext and_assoc.symm
@[simp] theorem z11d (E:Env) (l:Nat) (el:Nat→Option (List z0a)) (keep:List Nat) (gs:List z0h) (xs:List z6a) (d:Option Nat) (y:Nat) (as:List Arg) (zs:List z6a) (Q:IQ) (p:Nat×Bool) (s:ASt):
  z0sb E l el (.yield keep gs xs d y as zs) Q p s=((∀s'∈d.toList,lk s.org s'=none)∧z9Pd E (fun st0=>p.2=false∧el p.1=some (as.map (arg E (z4oc st0).get))∧z7a (as.map (arg E (z4oc st0).get))=true∧(z4oc st0).get y= .lit (.func (.yield l) #[] #[])∧(∀q∈(z4oc st0).box,∀cs,q.2=some cs→cs.all yOk=true∧q.1<1000000)∧
   ∀b:Bool,z0R E keep gs (fun e s=>Q e (if b then(p.1+1,false) else(p.1,true)) s) zs (z36c d b (z4oc st0))) xs s):=by
 simp only[z5Xc,z7v,z0sb]
 apply propext
 constructor
 ·rintro⟨h1,h2,h3,h4,h5,h6,h8,h9⟩
  exact⟨h2,h1,h3,h4,h5,h6,h8,h9⟩
 ·rintro⟨h2,h1,h3,h4,h5,h6,h8,h9⟩
  exact⟨h1,h2,h3,h4,h5,h6,h8,h9⟩
@[simp] theorem z8Vd (d:Nat) (b:Bool) (o e:List (Nat×z0a)) (bx:List (Nat×Option (List z0a))):z36c (some d) b ⟨o,e,bx⟩=⟨o,(d,bo b)::e,bx⟩:=rfl
@[simp] theorem z2ae (b:Bool) (o e:List (Nat×z0a)) (bx:List (Nat×Option (List z0a))):z36c none b ⟨o,e,bx⟩=⟨o,e,bx⟩:=rfl
@[simp] theorem z3je (o e:List (Nat×z0a)) (b:List (Nat×Option (List z0a))):z4oc ⟨o,e,b⟩=⟨o,e.map fun q=>(q.1,if yOk q.2 then q.2 else .undef),b.map fun q=>(q.1,q.2.map z6Hb)⟩:=rfl
@[simp] theorem yOk_ep (cs:List z0a):yOk (.ep cs)=false:=rfl
@[simp] theorem yOk_sl (m:z5r) (nl:Option Bool) (n:Nat) (cs:List z0a):yOk (.sl m nl n cs)=z6c (.sl m nl n cs):=rfl
@[simp] theorem z0Xd:yOk .undef=true:=rfl
@[simp] theorem yOk_bp (i o:Nat):yOk (.bp i o)=true:=rfl
@[simp] theorem z6le (v:Value):yOk (.lit v)=true:=rfl
@[simp] theorem yOk_st (l:List UInt8):yOk (st l)=true:=rfl
@[simp] theorem yOk_bo (b:Bool):yOk (bo b)=true:=rfl
@[simp] theorem z2ge (n:Int):yOk (i64 n)=true:=rfl
@[simp] theorem z6ie (cs:List z0a):yOk (.agg cs)=z7a cs:=rfl
@[simp] theorem z7ge (cs:List z0a):yOk (.tup cs)=z7a cs:=rfl
@[simp] theorem z7de (E:Env) (l:Nat) (el:Nat→Option (List z0a)) (keep:List Nat) (gs:List z0h) (xs:List z6a) (d:Option Nat) (y:Nat) (as:List Arg) (zs:List z6a) (b:z66a) (Q:IQ) (p:Nat×Bool) (s:ASt):
  z0sb E l el (.seq (.yield keep gs xs d y as zs) b) Q p s=z0sb E l el (.yield keep gs xs d y as zs) (z5mc (fun p st=>z0sb E l el b Q p st) Q) p s:=rfl
theorem z9Fc {E:Env} {l:Nat} {el:Nat→Option (List z0a)} {b:z66a} {Q:IQ} {p:Nat×Bool} {s:ASt} (h:∀Q',Q'=Q→z0sb E l el b Q' p s):z0sb E l el b Q p s:=h Q rfl
def inp (label:List UInt8) (parts:List (List UInt8)):List UInt8:=z2X label++parts.flatMap z2X
def drv (key label:List UInt8) (parts:List (List UInt8)):List UInt8:=mac key (inp label parts)
theorem z2J (k l:List UInt8) (p:List (List UInt8)):(drv k l p).length=32:=z4o _
attribute [simp] z2J
theorem z7zb {E:Env} {f:Nat} {t:Arg} {ks ps:List Nat} {as bd:z1c} {Q:z5c→ASt→Prop} {st:ASt} (x y:List z0a) (hx:arg E st.get t= .fn f x y) (hp:z8b (x++y)=true) (hlv:(E.I f).lv=[]) (hpre:(E.I f).pre x y) (hps:∀p∈ps,p∉ks∧lk st.org p=none) (N:Nat) (I:Nat→List (Nat×Option (List z0a))→Prop) (h0:I 0 st.box) (hb:∀i bx,I i bx→i≤N)
  (hd:∀i bx,I i bx→(E.I f).el x y i=none→Q .normal {org:=st.org,env:=z0u st ks,box:=bx})
  (hr:∀i bx xs,I i bx→(E.I f).el x y i=some xs→xs.length=ps.length∧z7a xs=true∧∀V:Nat→Value,awp E as (z2l (awp E bd (z1Fc st ks V (I (i+1)) Q)) (fun _ _=>False)) (z3oa st ks ps V xs bx)):awp E (.range f t ks ps as bd) Q st:=by
 refine⟨x,y,hx,by rw[hlv,z4qc];exact hp,by rw[hlv,z7ja];exact hpre,hps,N,I,by rw[hlv,z1Y,z5pa];exact h0,hb,fun i bx h he=>by rw[hlv,z1Y,z2wb];exact hd i bx h (by rw[hlv,z7ja] at he;exact he),fun i bx xs h he=> ?_⟩
 obtain⟨h1,h2,h3⟩:=hr i bx xs h (by rw[hlv,z7ja] at he;exact he)
 refine⟨h1,h2,fun V=> ?_⟩
 have e:z1Fc st ks V (I (i+1)) (fun e s=>z95 st ks [] Q e s.box)=z1Fc st ks V (I (i+1)) Q:=by
  funext e s
  cases e with
  |normal=>rfl
  |exit id=>simp only[z1Fc,z2wb]
  |ret=>simp only[z1Fc,z2wb]
 rw[hlv,z1Y,z5Z,e]
 exact h3 V
@[simp] theorem z3Dc (l:Nat) (x y:List z0a):z13c l [] x y=z4H [] (x++ .lit (.func (.yield l) #[] #[])::y):=by simp[z13c,z4H,lvS]

end Go.Abs
end

section
namespace Go.Abs

def z76c:Nat→List z0a→List (Nat×z0a)
 |_,[]=>[]
 |i,d::ds=>(i,dem d)::z76c (i+1) ds
def z9xc (c:CW) (p:Nat→Value) (ds:List z0a) (bs:Nat→List z0a):ASt:=
 {org:=c.hold.map fun j=>(j,.lit (p j)),env:=z76c 0 ds,box:=c.bx.map fun j=>(j,some (bs j))}
def held (st:ASt) (p:Value) (d:z0a):Prop:=∃t V id e o n c e' o' n' c',lk st.org t=some (.lit V)∧z1xd V=z1xd p∧st.get t= .bv id e o n c∧d= .bv id e' o' n' c'
def z5ce (res:List z7M) (c:CW) (p:Nat→Value) (ds:List z0a) (bs:Nat→List z0a):z5c→ASt→Prop
 | .normal,st| .ret,st=>(∀r∈res,z6K st r)∧z1K st res=c.post ds bs∧(∀j∈c.hold,(lk st.org j=some (.lit (p j))∧st.get j=dem (ds.getD j .undef))∨held st (p j) (ds.getD j .undef))∧(∀j∈c.bx++c.nb,st.getB j=some (c.out ds bs j))∧
  (∀id∈z3d (c.post ds bs),id∈c.bx++c.nb)∧(∀j∈c.bx++c.nb,∀id∈z6b (c.out ds bs j),id∈c.bx++c.nb)
 |_,_=>False

section
variable {K : Cx} {base : z4f} {n : Nat} {st : ASt} {a : Act} {w : World}
theorem z1ld (d:z0a):z3d (Abs.dem d)=z3d d:=by
 cases d with
 |sl m nl n cs=>cases m<;>rfl
 |oagg=>simp only[Abs.dem,z3d,z2h,z6b,List.nil_append]
 |_=>rfl
mutual
theorem z7md {K:Con} {g g':Gh} {w w':World}:∀(d:z0a) (v:Value) (l l':Option Loc),Rep K g w l d v→Rep K g' w' l' d v→∀id∈z3d d,g.mu id=g'.mu id
 | .bp id off,v,_,_,h,h',i,hi=>by
  simp only[z3d,List.mem_singleton] at hi
  subst hi
  simp only[Rep] at h h'
  obtain⟨b,hb,rfl⟩:=h
  obtain⟨b',hb',e⟩:=h'
  simp only[Value.pointer.injEq,Option.some.injEq,Addr.mk.injEq,and_true] at e
  rw[hb,hb',e]
 | .bv id e off n c,v,_,_,h,h',i,hi=>by
  simp only[z3d,List.mem_singleton] at hi
  subst hi
  simp only[Rep] at h h'
  obtain⟨b,cap,o,hb,rfl,_⟩:=h
  obtain⟨b',cap',o',hb',e,_⟩:=h'
  simp only[Value.slice.injEq,Option.some.injEq,Addr.mk.injEq,and_true] at e
  rw[hb,hb',e.1.1]
 | .agg cs,v,_,_,h,h',i,hi=>by
  simp only[Rep] at h h'
  obtain⟨a,rfl,h⟩:=h
  obtain⟨a',e,h'⟩:=h'
  cases e
  exact z2xb cs _ h h' i (by simpa[z3d] using hi)
 | .tup cs,v,_,_,h,h',i,hi=>by
  simp only[Rep] at h h'
  obtain⟨a,rfl,h⟩:=h
  obtain⟨a',e,h'⟩:=h'
  cases e
  exact z2xb cs _ h h' i (by simpa[z3d] using hi)
 | .fn f x y,v,_,_,h,h',i,hi=>by
  simp only[Rep] at h h'
  obtain⟨a,c,rfl,h1,h2⟩:=h
  obtain⟨a',c',e,h1',h2'⟩:=h'
  simp only[Value.func.injEq] at e
  obtain⟨_,rfl,rfl⟩:=e
  simp only[z3d,List.mem_append] at hi
  rcases hi with hi|hi
  ·exact z2xb x _ h1 h1' i hi
  ·exact z2xb y _ h2 h2' i hi
 | .undef,_,_,_,_,_,i,hi=>by simp[z3d] at hi
 | .lit _,_,_,_,_,_,i,hi=>by simp[z3d] at hi
 | .sl _ _ _ _,_,_,_,_,_,i,hi=>by simp[z3d] at hi
 | .ep _,_,_,_,_,_,i,hi=>by simp[z3d] at hi
 | .otup _ _ _ _ rest,v,_,_,h,h',i,hi=>by
  simp only[Rep] at h h'
  obtain⟨a,x,xs,rfl,h0,_,h⟩:=h
  obtain⟨a',x',xs',e,h0',_,h'⟩:=h'
  cases e
  rw[h0] at h0'
  cases h0'
  exact z2xb rest _ h h' i (by simpa[z3d] using hi)
 | .oagg pre _ _ _ _ rest,v,_,_,h,h',i,hi=>by
  simp only[Rep] at h h'
  obtain⟨a,ps,x,xs,rfl,h0,h1,_,h⟩:=h
  obtain⟨a',ps',x',xs',e,h0',h1',_,h'⟩:=h'
  cases e
  rw[h0] at h0'
  obtain⟨e1,e2⟩:=List.append_inj h0' (by rw[←h1.len,←h1'.len])
  subst e1
  cases e2
  simp only[z3d,List.mem_append] at hi
  rcases hi with hi|hi
  ·exact z2xb pre _ h1 h1' i hi
  ·exact z2xb rest _ h h' i hi
theorem z2xb {K:Con} {g g':Gh} {w w':World}:∀(ds:List z0a) (vs:List Value),z2b K g w ds vs→z2b K g' w' ds vs→∀id∈z6b ds,g.mu id=g'.mu id
 |[],_,_,_,i,hi=>by simp[z6b] at hi
 |c::cs,l,h,h',i,hi=>by
  simp only[z2b] at h h'
  obtain⟨x,xs,rfl,h1,h2⟩:=h
  obtain⟨x',xs',e,h1',h2'⟩:=h'
  cases e
  simp only[z6b,List.mem_append] at hi
  rcases hi with hi|hi
  ·exact z7md c x none none h1 h1' i hi
  ·exact z2xb cs xs h2 h2' i hi
end
theorem z8sc:∀(ds:List z0a) (i s:Nat),lk (z76c i ds) s=if i≤s then(ds[s-i]?).map Abs.dem else none
 |[],i,s=>by simp[z76c,lk]
 |d::ds,i,s=>by
  simp only[z76c,lk]
  by_cases h:s=i
  ·subst h;simp
  ·rw[if_neg h,z8sc ds (i+1) s]
   by_cases hi:i≤s
   ·rw[if_pos hi,if_pos (by omega),show s-i=(s-(i+1))+1 by omega]
    simp
   ·rw[if_neg hi,if_neg (by omega)]

theorem z15c {g:Gh} {c:CW} {ds:List z0a} {bs:Nat→List z0a} {vs:List Value} (hI:Inv K ⟨w,Wr g,g.S,[],g.mu⟩ g w (c.ins bs)) (hA:z2b K.toCon g w ds vs) (m:Nat) (hm:vs.length+m=n):
  Rel K ⟨w,Wr g,g.S,[],g.mu⟩ n (z9xc c (fun j=>vs.getD j undef) ds bs) {tmps:=vs.toArray++Array.replicate m undef,defers:=[]} w:=by
 have hget:∀s v,vs[s]? =some v→(vs.toArray++Array.replicate m undef).getD s undef=v:=fun s v hv=>by
  have hs:s<vs.length:=(List.getElem?_eq_some_iff.1 hv).1
  rw[Array.getD_eq_getD_getElem?,Array.getElem?_append_left (by simpa using hs)]
  simp[hv]
 have hgb:(z9xc c (fun j=>vs.getD j undef) ds bs).getB=c.ins bs:=funext fun j=>by
  simp only[ASt.getB,z9xc,z9Fb fun j=>some (bs j),CW.ins]
  split<;>rfl
 have horg:∀s,lk (z9xc c (fun j=>vs.getD j undef) ds bs).org s=if s∈c.hold then some (.lit (vs.getD s undef)) else none:=fun s=>
  z9Fb (fun j=>z0a.lit (vs.getD j undef)) s c.hold
 have hall:∀s,(vs.toArray++Array.replicate m undef).getD s undef=vs.getD s undef:=fun s=>by
  cases hv:vs[s]? with
  |some v=>rw[hget s v hv,List.getD_eq_getElem?_getD,hv];rfl
  |none=>
   rw[List.getD_eq_getElem?_getD,hv]
   have hs:vs.length≤s:=List.getElem?_eq_none_iff.1 hv
   rw[Array.getD_eq_getD_getElem?,Array.getElem?_append_right (by simpa using hs)]
   simp only[Array.getElem?_replicate,Option.getD_none]
   split<;>rfl
 refine⟨g,by rw[hgb];exact hI,fun s=> ?_,fun s d hs=> ?_,rfl,by simp;exact hm⟩
 ·unfold ASt.get
  rw[horg]
  show Rep K.toCon g w (some (.slot s)) (match lk (z76c 0 ds) s with|some d=>d|none=>_) _
  rw[z8sc,if_pos (Nat.zero_le _),Nat.sub_zero]
  cases hd:ds[s]? with
  |none=>
   simp only[Option.map_none]
   by_cases hh:s∈c.hold
   ·rw[if_pos hh]
    simp only[Option.getD_some,Abs.dem,Rep]
    exact hall s
   ·rw[if_neg hh]
    simp[Abs.dem,Rep]
  |some d=>
   obtain⟨v,hv,hr⟩:=hA.get s d hd
   rw[hget s v hv]
   simp only[Option.map_some]
   exact Rep.dem _ hr
 ·rw[horg] at hs
  split at hs
  ·cases hs
   show z9b _ _ _ _ _
   rw[hall s]
   simp[z9b]
  ·cases hs

theorem z9uc {f:Nat} {fn:Func} {F:z1ka} {c:CW} (hf:K.P.funcs[K.nu f]? =some fn) (hc:z3ta K F fn=true) (hs:z1Lc K F.body)
  (h:∀ds bs p,c.pre ds bs→ds.length=F.n∧awp K.E F.body (z5ce F.res c p ds bs) (z9xc c p ds bs)) (ht:z2Ga F.body=true):z7ib K f c:=by
 simp only[z3ta,Bool.and_eq_true,Bool.not_eq_true',decide_eq_true_eq] at hc
 obtain⟨⟨⟨hname,hbody⟩,hres⟩,hsz⟩:=hc
 cases hbd:fn.body with
 |none=>rw[hbd] at hbody;cases hbody
 |some code=>
  rw[hbd] at hbody
  simp only at hbody
  refine⟨⟨fn,hf,by rw[hbd];rfl,hname⟩,fun g0 w ds bs vs hI0 hA hcov hpre=> ?_⟩
  obtain⟨hlen,hw⟩:=h ds bs (fun j=>vs.getD j undef) hpre
  have hl2:=hA.len
  refine callsIn_wide.1 (callsIn_of_wp_marks (F:=WF none) (n:=0) hf hbd (z9dc none _) ?_)
  have hR:=z15c (n:=fn.ntmps) hI0 hA (fn.ntmps-vs.length) (by omega)
  have hwp:=hs fn.ntmps code _ _ _ _ w hbody (.inl ht) hw hR
  simp only[List.size_toArray]
  refine wpIn_mono hwp fun e a' w' hl=> ?_
  have fin:∀st g w',Inv K ⟨w,Wr g0,g0.S,[],g0.mu⟩ g w' st.getB→z3v K g w' st.get a'→(∀j V,lk st.org j=some (.lit V)→a'.tmps.getD j undef=V)→z5ce F.res c (fun j=>vs.getD j undef) ds bs .ret st→
    ∃v,(results fn a'.tmps).run K.P w'= .ok v w'∧∃v' g',Ending.returned v= .returned v'∧Inv K ⟨w,Wr g0,g0.S,[],g0.mu⟩ g' w' (c.outs ds bs)∧(∀j∈c.bx,g'.mu j=g0.mu j)∧Rep K.toCon g' w' (some .ret) (c.post ds bs) v':=fun st g w' hI hS hO hq=>by
   obtain⟨hok,hval,hbx,hout,hr1,hr2⟩:=hq
   obtain⟨xs,h1,h2,h3,_⟩:=z6Qb hI hS hres hok
   have hmap:fn.results.mapM (z0ib a'.tmps)=Functor.map List.toArray (fn.results.toList.mapM (z0ib a'.tmps)):=by
    exact Array.mapM_eq_mapM_toList
   have hrun:(results fn a'.tmps).run K.P w'= .ok (if h:xs.toArray.size=1 then xs.toArray[0] else .tuple xs.toArray) w':=by
    have:results fn a'.tmps=(do
     let vs←fn.results.mapM (z0ib a'.tmps)
     pure (if h:vs.size=1 then vs[0] else .tuple vs)):=rfl
    rw[this,hmap]
    simp only[map_eq_pure_bind,Sem.run_bind,h1,Result.andThen_ok,Sem.run_pure]
   refine⟨_,hrun,?_⟩
   let g':Gh:={g with mu:=fun j=>if j∈c.bx++c.nb then g.mu j else none}
   have hI':Inv K ⟨w,Wr g0,g0.S,[],g0.mu⟩ g' w' (c.outs ds bs):=z3Fc hI (c.bx++c.nb) hout hr2
   have hmu:∀j∈c.bx,g'.mu j=g0.mu j:=fun j hj=>by
    rcases hcov j hj with hvia|⟨i,hi,d,hd,hjd⟩
    ·obtain⟨b,k1,_⟩:=hI.bxok j _ (hout j (List.mem_append_left _ hj))
     simp only[g',if_pos (List.mem_append_left c.nb hj),k1]
     exact(hI.old j b hvia.1 hvia.2 k1).symm
    obtain⟨v0,hv0,hr0⟩:=hA.get i d hd
    have hv0':vs.getD i undef=v0:=by rw[List.getD_eq_getElem?_getD,hv0];rfl
    have hdd:ds.getD i .undef=d:=by rw[List.getD_eq_getElem?_getD,hd];rfl
    rcases hbx i hi with⟨k1,k2⟩|⟨t,V,id,e,o,n,c',e',o',n',c'',k1,kb,k2,k3⟩
    rotate_left
    ·have e1:=hO t V k1
     have e2:=hS t
     rw[k2,e1] at e2
     rw[hdd] at k3
     subst k3
     simp only[Rep] at e2 hr0
     obtain⟨b2,_,_,m2,v2,_⟩:=e2
     obtain⟨b1,_,_,m1,v1,_⟩:=hr0
     simp only[hv0',v1,v2,z1xd,Option.some.injEq] at kb
     subst kb
     simp only[z3d,List.mem_singleton] at hjd
     subst hjd
     simp only[g',if_pos (List.mem_append_left c.nb hj),m2,m1]
    have e1:a'.tmps.getD i undef=vs.getD i undef:=hO i _ k1
    have e2:=hS i
    rw[k2,e1] at e2
    rw[hv0',hdd] at e2
    have hdj:j∈z3d (Abs.dem d):=by rw[z1ld];exact hjd
    have:=z7md (Abs.dem d) v0 _ _ e2 (Rep.dem (some (.slot i)) hr0) j hdj
    simp only[g',if_pos (List.mem_append_left c.nb hj)]
    exact this
   have cut:∀{d:z0a} {v:Value} {l:Option Loc},(∀id∈z3d d,id∈c.bx++c.nb)→Rep K.toCon g w' l d v→Rep K.toCon g' w' l d v:=fun {d v l} hd hr=>
    Rep.mono (g:=g) (g':=g') (z9d.refl g.S w') d v l l (fun id hid b hb=>by simp only[g',if_pos (hd id hid)];exact hb) (fun m hm=>⟨m,hm,fun b hb=>⟨hb,rfl,fun _ _ h=>h⟩⟩) hr
   by_cases hone:∃s,F.res=[.t s]
   ·obtain⟨s,hs⟩:=hone
    have hx:=h3 s hs
    subst hx
    rw[hs] at hval
    simp only[z1K] at hval
    refine⟨a'.tmps.getD s undef,z2Va g' (.slot s) .ret,by simp,z6kb hI' s .ret,hmu,?_⟩
    rw[←hval] at hr1⊢
    exact z6Fa (cut hr1 (hS s))
   ·have hl3:=h2.len
    simp only[List.length_map] at hl3
    have rest:∀{d:z0a} {v:Value},Rep K.toCon g w' none d v→z5b d=false→d=c.post ds bs→Rep K.toCon g' w' (some .ret) (c.post ds bs) v:=fun {d v} hr ho he=>by
     subst he;exact z29a _ ho (cut hr1 hr)
    have hdem:∀d:z0a,z5b (dem d)=false:=z12a
    cases hF:F.res with
    |nil=>
     rw[hF] at h2 hval hl3
     simp only[List.map_nil,z2b] at h2
     subst h2
     refine⟨_,g',rfl,hI',hmu,?_⟩
     refine rest (d:= .tup []) ?_ rfl (by rw[←hval];rfl)
     simp[Rep,z2b]
    |cons r rs=>
     rw[hF] at h2 hval hl3 hone
     cases rs with
     |nil=>
      simp only[List.map_cons,List.map_nil,z2b] at h2
      obtain⟨x,ys,rfl,h4,rfl⟩:=h2
      refine⟨x,g',by simp,hI',hmu,?_⟩
      cases r with
      |t s=>exact absurd ⟨s,rfl⟩ hone
      |o s=>
       simp only[z1K] at hval
       exact rest h4 (hdem _) hval
      |cell s k id=>
       simp only[z1K] at hval
       refine rest h4 ?_ hval
       cases k with
       |none=>exact hdem _
       |some n=>rfl
     |cons r2 rs=>
      have h5:¬(xs.toArray.size=1):=by simp only[List.size_toArray,←hl3,List.length_cons];omega
      refine⟨.tuple xs.toArray,g',by rw[dif_neg h5],hI',hmu,?_⟩
      refine rest (d:= .tup ((r::r2::rs).map (z97 st))) ?_ rfl (by rw[←hval];cases r<;>rfl)
      simp only[Rep]
      exact⟨_,rfl,by simpa using h2⟩
  cases e<;>simp only[z8Sb] at hl<;>simp only[bodyPostM]
  ·obtain⟨b',hE,st,hR',hq⟩:=hl
   exact z7Lc hE rfl hR' fun g w' hI hS hO=>fin st g w' hI hS (fun j _ hj=>by have:=hO j _ hj;simpa[z9b] using this) hq
  ·obtain⟨b',hE,st,_,hq⟩:=hl
   exact hq
  ·obtain⟨b',hE,st,hR',hq⟩:=hl
   exact z7Lc hE rfl hR' fun g w' hI hS hO=>fin st g w' hI hS (fun j _ hj=>by have:=hO j _ hj;simpa[z9b] using this) hq

theorem z5tc {f:Nat} {fn:Func} {F:z1ka} {c:CW} (hf:K.P.funcs[K.nu f]? =some fn) (hc:z3ta K F fn=true) (hv:∀p∈z4a F.body,VB K p)
  (h:∀ds bs p,c.pre ds bs→ds.length=F.n∧awp K.E F.body (z5ce F.res c p ds bs) (z9xc c p ds bs)) (hfl:z9Aa F.body=true) (ht:z2Ga F.body=true):z7ib K f c:=z9uc hf hc (z8ob hv hfl) h ht
end
end Go.Abs
end

section
namespace Go.Abs
def z6Bb (c:z1f) (μ:List z0a→Nat) (n:Nat):z1f:=⟨fun ds=>c.pre ds∧μ ds<n,c.post⟩
def Cx.wG (K:Cx) (f:Nat) (c:z1f):Cx:={K with E:={K.E with G:=fun g=>if g=f then c else K.E.G g}}
section
variable {K : Cx}
theorem z8dd {f g:Nat} {c c':z1f}:z1a (K.wG f c) g c'↔z1a K g c':=Iff.rfl
theorem z4Bc {f:Nat} {c:z1f} {base:z4f} {g:Gh} {w:World} {bx:Nat→Option (List z0a)}:Inv (K.wG f c) base g w bx↔Inv K base g w bx:=
 ⟨fun h=>⟨h.fr,h.sS,h.inj,h.bxok,h.nobx,h.muW,h.owW,h.glob,h.kp,h.obok,h.old⟩,fun h=>⟨h.fr,h.sS,h.inj,h.bxok,h.nobx,h.muW,h.owW,h.glob,h.kp,h.obok,h.old⟩⟩
theorem z0Wc {f g:Nat} {c:z1f} {c':CM} (h:z0Na K g c'):z0Na (K.wG f c) g c':=by
 refine⟨h.1,fun g0 w ds vs hI hA hp=> ?_⟩
 refine(h.2 g0 w ds vs (z4Bc.1 hI) hA hp).mono ?_
 rintro e w' ⟨v,g',h1,h2,h3,h4⟩
 exact⟨v,g',h1,z4Bc.2 h2,h3,h4⟩
theorem z6Wc {f g:Nat} {c:z1f} {c':CW} (h:z7ib K g c'):z7ib (K.wG f c) g c':=by
 refine⟨h.1,fun g0 w ds bs vs hI hA hc hp=> ?_⟩
 refine(h.2 g0 w ds bs vs (z4Bc.1 hI) hA hc hp).mono ?_
 rintro e w' ⟨v,g',h1,h2,h3,h4⟩
 exact⟨v,g',h1,z4Bc.2 h2,h3,h4⟩
theorem z36d {f k:Nat} {c:z1f} (h:z5bc K k):z5bc (K.wG f c) k:=⟨h.call,h.len,h.wstr,h.write,h.str⟩
theorem z5le {f:Nat} {c:z1f} {p:Nat×Bool} (hp:p≠(f,false)) (h:VB K p):VB (K.wG f c) p:=by
 obtain⟨g,b⟩:=p
 cases b with
 |false=>
  have hg:g≠f:=fun e=>hp (by rw[e])
  have e:(K.wG f c).E.G g=K.E.G g:=if_neg hg
  show z1a (K.wG f c) g ((K.wG f c).E.G g)
  rw[e]
  exact h
 |true=>
  revert h
  simp only[VB]
  cases Nat.ble 999999990 g with
  |true=>exact z36d
  |false=>
   cases Nat.ble 500000000 g with
   |true=>exact z6Wc
   |false=>exact z0Wc
theorem z41c {f:Nat} {c:z1f} (μ:List z0a→Nat) (hcal:z4z K.P (K.nu f)) (h:∀n,z1a K f (z6Bb c μ n)→z1a K f (z6Bb c μ (n+1))):z1a K f c:=by
 have all:∀n,z1a K f (z6Bb c μ n):=fun n=>by
  induction n with
  |zero=>exact⟨hcal,fun S w ds vs _ _ hp=>absurd hp.2 (Nat.not_lt_zero _)⟩
  |succ n ih=>exact h n ih
 exact⟨hcal,fun S w ds vs hg hr hp=>(all (μ ds+1)).2 S w ds vs hg hr ⟨hp,Nat.lt_succ_self _⟩⟩
theorem z4ke {f:Nat} {F:z1ka} (hv:∀p∈z4a F.body,p≠(f,false)→VB K p) (c':z1f) (ih:z1a (K.wG f c') f c'):∀p∈z4a F.body,VB (K.wG f c') p:=fun p hp=>by
 by_cases e:p=(f,false)
 ·subst e
  have e:(K.wG f c').E.G f=c':=if_pos rfl
  show z1a (K.wG f c') f ((K.wG f c').E.G f)
  rw[e]
  exact ih
 ·exact z5le e (hv p hp e)
theorem z55b {f:Nat} {fn:Func} {F:z1ka} {c:z1f} (μ:List z0a→Nat) (hf:K.P.funcs[K.nu f]? =some fn) (hc':∀c',z3ta (K.wG f c') F fn=true) (hs:∀c',z1a (K.wG f c') f c'→z1Lc (K.wG f c') F.body)
  (h:∀n ds,(z6Bb c μ (n+1)).pre ds→ds.length=F.n∧awp (K.wG f (z6Bb c μ n)).E F.body (z6va F.res (c.post ds)) (z4H F.wr ds)):z1a K f c:=by
 have hc:=hc' c
 have hname:fn.body.isSome=true∧fn.name≠ "runtime.NumGoroutine" :=by
  simp only[z3ta,Bool.and_eq_true,Bool.not_eq_true'] at hc
  refine⟨?_,by simpa using hc.1.1.1⟩
  cases hb:fn.body with
  |none=>simp[hb] at hc
  |some _=>rfl
 refine z41c μ ⟨fn,hf,hname.1,?_⟩ fun n ih=> ?_
 ·have:=hc
  simp only[z3ta,Bool.and_eq_true,Bool.not_eq_true'] at this
  exact this.1.1.1
 ·exact z8dd.1 (z8Lb (K:=K.wG f (z6Bb c μ n)) (f:=f) (F:=F) (c:=z6Bb c μ (n+1)) hf (hc' _) (hs _ ih) (h n))
theorem z83a {f:Nat} {fn:Func} {F:z1ka} {c:z1f} (μ:List z0a→Nat) (hf:K.P.funcs[K.nu f]? =some fn) (hc':∀c',z3ta (K.wG f c') F fn=true) (hv:∀p∈z4a F.body,p≠(f,false)→VB K p)
  (h:∀n ds,(z6Bb c μ (n+1)).pre ds→ds.length=F.n∧awp (K.wG f (z6Bb c μ n)).E F.body (z6va F.res (c.post ds)) (z4H F.wr ds)) (hfl:z9Aa F.body=true):z1a K f c:=z55b μ hf hc' (fun c' ih=>z8ob (z4ke hv c' ih) hfl) h


def z1dc:z0a→Prop
 | .sl _ none _ _=>False
 | .sl _ (some true) n cs=>n=0∧cs=[]
 |_=>True
def z2fc (b:Bool):z0a→z0a
 | .sl m none n cs=> .sl m (some b) n cs
 |d=>d
theorem z7jd {S:Nat→Nat} {w:World} {d:z0a} {v:Value} (h:z9b K.toCon S w d v):∃b,z1dc (z2fc b d)∧z9b K.toCon S w (z2fc b d) v:=by
 cases d with
 |sl m nl n cs=>
  cases nl with
  |none=>
   simp only[z9b] at h
   rcases h with⟨b,o,cap,h1,h2,h3,h4,h5⟩|⟨q,h1,h2,h3,h4⟩
   ·exact⟨false,by simp[z2fc,z1dc],by simp only[z2fc,z9b];exact .inl ⟨b,o,cap,h1,h2,h3,by simp,h5⟩⟩
   ·cases q with
    |none=>exact⟨true,by simp[z2fc,z1dc,h2,h3],by simp only[z2fc,z9b];exact .inr ⟨none,h1,h2,h3,by simp⟩⟩
    |some q=>exact⟨false,by simp[z2fc,z1dc],by simp only[z2fc,z9b];exact .inr ⟨some q,h1,h2,h3,by simp⟩⟩
  |some b=>
   cases b with
   |false=>exact⟨false,by simp[z2fc,z1dc],h⟩
   |true=>
    refine⟨true,?_,h⟩
    simp only[z9b] at h
    rcases h with⟨_,_,_,_,_,_,h4,_⟩|⟨_,_,h2,h3,_⟩
    ·exact absurd rfl h4
    ·exact⟨h2,h3⟩
 |_=>exact⟨true,by simp[z2fc,z1dc],h⟩
theorem z7kc {S:Nat→Nat} {w:World}:∀{ds:List z0a} {vs:List Value} {i:Nat} {d d':z0a},z5a K.toCon S w ds vs→ds[i]? =some d→(∀v,z9b K.toCon S w d v→vs[i]? =some v→z9b K.toCon S w d' v)→z5a K.toCon S w (ds.set i d') vs
 |[],_,_,_,_,_,h,_=>by simp at h
 |c::cs,vs,0,d,d',hr,h,hd=>by
  simp only[List.getElem?_cons_zero,Option.some.injEq] at h
  subst h
  simp only[z5a,List.set_cons_zero] at hr⊢
  obtain⟨x,xs,rfl,h1,h2⟩:=hr
  exact⟨x,xs,rfl,hd x h1 rfl,h2⟩
 |c::cs,vs,i+1,d,d',hr,h,hd=>by
  simp only[z5a,List.set_cons_succ] at hr⊢
  obtain⟨x,xs,rfl,h1,h2⟩:=hr
  exact⟨x,xs,rfl,h1,z7kc h2 (by simpa using h) (fun v hv hx=>hd v hv (by simpa using hx))⟩
theorem z4Cc {S:Nat→Nat} {w:World} {d:z0a}:∀{ds:List z0a} {vs:List Value} {i:Nat},z5a K.toCon S w ds vs→ds[i]? =some d→∃v,vs[i]? =some v∧z9b K.toCon S w d v
 |[],_,_,_,h=>by simp at h
 |c::cs,vs,0,hr,h=>by
  simp only[z5a] at hr
  obtain⟨x,xs,rfl,h1,h2⟩:=hr
  simp only[List.getElem?_cons_zero,Option.some.injEq] at h
  subst h
  exact⟨x,rfl,h1⟩
 |c::cs,vs,i+1,hr,h=>by
  simp only[z5a] at hr
  obtain⟨x,xs,rfl,h1,h2⟩:=hr
  obtain⟨v,k1,k2⟩:=z4Cc h2 (by simpa using h)
  exact⟨v,by simpa using k1,k2⟩
theorem z7oc {f:Nat} {c:z1f} (i:Nat) (h:z1a K f ⟨fun ds=>c.pre ds∧∀d,ds[i]? =some d→z1dc d,c.post⟩) (hc:∀ds d b,c.pre ds→ds[i]? =some d→c.pre (ds.set i (z2fc b d))∧c.post (ds.set i (z2fc b d))=c.post ds):z1a K f c:=by
 refine⟨h.1,fun S w ds vs hg hr hp=> ?_⟩
 cases hd:ds[i]? with
 |none=>exact h.2 S w ds vs hg hr ⟨hp,fun d hd'=>by rw[hd] at hd';cases hd'⟩
 |some d=>
  obtain⟨v,hv⟩:=z4Cc hr hd
  obtain⟨b,h1,h2⟩:=z7jd hv.2
  obtain⟨k1,k2⟩:=hc ds d b hp hd
  have hr':z5a K.toCon S w (ds.set i (z2fc b d)) vs:=z7kc hr hd fun v' _ hv'=>by
   rw[hv.1] at hv';cases hv';exact h2
  have:=h.2 S w (ds.set i (z2fc b d)) vs hg hr' ⟨k1,fun d' hd'=>by
   have hlt:=(List.getElem?_eq_some_iff.1 hd).1
   rw[List.getElem?_set_self hlt] at hd'
   cases hd'
   exact h1⟩
  simp only[k2] at this
  exact this
end
end Go.Abs
end

section
namespace Go.Abs
def Cmd.small (c:Cmd):Prop:=c.ok∧c.data.length≤100000000∧c.list.length≤100000000
def bls (ps:List (Option Bool×List UInt8)):List z0a:=ps.map fun p=> .sl (.own 1) p.1 p.2.length (bys p.2)
def z8md (ps:List (Option Bool×List UInt8)):Nat:=(ps.map fun p=>p.2.length).sum
def z9nd (l:List z0a):List UInt8:=l.flatMap fun d=>gBs (gCs d)
def mdA (b:Bool):z5r:=if b then .own 1 else .plain
def mls (ps:List (Bool×Option Bool×List UInt8)):List z0a:=ps.map fun p=> .sl (mdA p.1) p.2.1 p.2.2.length (bys p.2.2)
def z8Na:z1f:=⟨fun ds=>∃(nl:Option Bool) (ps:List (Bool×Option Bool×List UInt8)),z8md (ps.map (·.2))≤10000000000∧ps.length≤10000000000∧ds=[.sl .plain nl ps.length (mls ps)],fun ds=> .sl (.own 1) none (z9nd (gCs (nth ds 0))).length (bys (z9nd (gCs (nth ds 0))))⟩
def z0lc:z1f:=⟨fun ds=>∃n:Nat,n≤10000000000∧ds=[.sl .plain (some true) 0 [],i64 n],fun _=> .sl (.own 1) none 0 []⟩
def z2Mb:z1f:=⟨fun ds=>∃(c:Cmd) (nl:Option Bool),c.small∧ds=[.agg (z49a c nl)],fun ds=> .sl (.own 1) none (z38b (z3Jc (gCs (nth ds 0)))).length (bys (z38b (z3Jc (gCs (nth ds 0)))))⟩
def z7Hb (c d:Cmd):Bool:=c.kind==d.kind&&c.key==d.key&&c.other==d.other&&c.type==d.type&&c.uses==d.uses&&c.life==d.life&&c.data==d.data&&c.list==d.list
def z4jb:z1f:=⟨fun ds=>∃(c d:Cmd) (nl nl':Option Bool),c.small∧d.small∧ds=[.agg (z49a c nl),.agg (z49a d nl')],fun ds=>bo (z7Hb (z3Jc (gCs (nth ds 0))) (z3Jc (gCs (nth ds 1))))⟩
/-! ### The reader -/
def z7ia (l:List Int) (d:List UInt8) (ls:List Int):Cmd:=⟨atI l 0,atI l 1,atI l 2,atI l 3,atI l 4,atI l 5,d,ls⟩
def setN (c:Cmd) (l:List Int):Cmd:=z7ia (l++(six c).drop l.length) c.data c.list
theorem z4Gc {c:Cmd} {nl:Option Bool} (h:c.small):z2Mb.pre [.agg (z49a c nl)]=True:=eq_true ⟨c,nl,h,rfl⟩
@[simp] theorem z6Gb (c:Cmd) (nl:Option Bool):z2Mb.post [.agg (z49a c nl)]= .sl (.own 1) none (z38b c).length (bys (z38b c)):=by simp[z2Mb]
theorem z8Ib {c d:Cmd} {nl nl':Option Bool} (h:c.small) (h':d.small):z4jb.pre [.agg (z49a c nl),.agg (z49a d nl')]=True:=eq_true ⟨c,d,nl,nl',h,h',rfl⟩
@[simp] theorem z8bb (c d:Cmd) (nl nl':Option Bool):z4jb.post [.agg (z49a c nl),.agg (z49a d nl')]=bo (z7Hb c d):=by simp[z4jb]
@[simp] theorem z7be (ps:List (Option Bool×List UInt8)):z9nd (bls ps)=ps.flatMap (·.2):=by
 induction ps with
 |nil=>rfl
 |cons p ps ih=>simp only[z9nd,bls,List.map_cons,List.flatMap_cons] at ih⊢;rw[ih];simp
theorem z5td (ps:List (Option Bool×List UInt8)):bls ps=mls (ps.map fun p=>(true,p)):=by
 rw[bls,mls,List.map_map];rfl
theorem z5ed (ps:List (Bool×Option Bool×List UInt8)):z9nd (mls ps)=ps.flatMap (·.2.2):=by
 induction ps with
 |nil=>rfl
 |cons p ps ih=>
  simp only[z9nd,mls,List.map_cons,List.flatMap_cons] at ih⊢
  rw[ih]
  simp[gCs]
theorem z8Eb {nl:Option Bool} {n:Nat} {ps:List (Bool×Option Bool×List UInt8)} (h:z8md (ps.map (·.2))≤10000000000) (h':ps.length≤10000000000) (hn:n=ps.length):z8Na.pre [.sl .plain nl n (mls ps)]=True:=eq_true ⟨nl,ps,h,h',by rw[hn]⟩
theorem z3xb (nl:Option Bool) (n:Nat) (ps:List (Bool×Option Bool×List UInt8)):z8Na.post [.sl .plain nl n (mls ps)]= .sl (.own 1) none (ps.flatMap (·.2.2)).length (bys (ps.flatMap (·.2.2))):=by
 show z0a.sl (.own 1) none (z9nd (mls ps)).length (bys (z9nd (mls ps)))=_
 rw[z5ed]
theorem z0Mc {nl:Option Bool} {n:Nat} {ps:List (Option Bool×List UInt8)} (h:z8md ps≤10000000000) (h':ps.length≤10000000000) (hn:n=ps.length):z8Na.pre [.sl .plain nl n (bls ps)]=True:=by
 rw[z5td]
 refine z8Eb ?_ (by simpa using h') (by simpa using hn)
 rw[List.map_map,show((fun x:Bool×Option Bool×List UInt8=>x.2)∘fun p:Option Bool×List UInt8=>(true,p))=id from rfl,List.map_id]
 exact h
@[simp] theorem z7uc (nl:Option Bool) (n:Nat) (ps:List (Option Bool×List UInt8)):z8Na.post [.sl .plain nl n (bls ps)]= .sl (.own 1) none (ps.flatMap (·.2)).length (bys (ps.flatMap (·.2))):=by simp[z8Na]
theorem z2ld {n:Int} (h0:0≤n) (h:n≤10000000000):z0lc.pre [.sl .plain (some true) 0 [],i64 n]=True:=eq_true ⟨n.toNat,by omega,by rw[show((n.toNat:Nat):Int)=n by omega]⟩
@[simp] theorem z3lc (ds:List z0a):z0lc.post ds= .sl (.own 1) none 0 []:=rfl
theorem z3Jb (bs:List Nat) (bx:Nat→Option (List z0a)) (f:Nat) (x y:List z0a):z0d bs bx (.fn f x y)=((∀v∈x,z8e bs bx v)∧(∀v∈y,z8e bs bx v)):=rfl
end Go.Abs
end

section
namespace Go.Abs
set_option maxRecDepth 100000
def z0eb:z1c:=
 Yu [1,3,18,19] [YM 22 3,Ym 23 5,Yk 24 12 23,YN 25 1 1 22 24,YM 3 25]
def z6cb:z1c:=
 Yq (.block 1 (Yr [1,3,5,18,19] [Yo 21 (.idxA none 1 6 (.s 18) (.s 19)),Ym 5 21] z0eb)) (Yu [1,3,18,19] [YB 26 .add 19 1,Ym 19 26])
def z1Ra:z1c:=
 Yq (Yd 20 (Yy [1,3,18,19]) (YY [1,3])) z6cb
def z0Ra:z1c:=
 Yr [1,3,18,19,20] [YB 20 .lss 19 6] z1Ra
def z6eb:z1c:=
 .block 0 (.loop z0Ra)
def z2gb:z1c:=
 YR [2] [.norm [1]] [YM 27 3,Yf 28 6 1,Yl 29 1 28,Yk 30 7 29,Yf 31 7 1,Yl 32 1 31,Yk 33 39 32,Yo 34 (.buildSl 1 3 [.sl .plain none 0 [],.sl .plain none 0 [],.sl .plain none 0 []] [(0,1,.s 27),(1,1,.s 30),(2,1,.s 33)]),Yk 35 129 34,YM 2 35] .ret
def z8db:z1c:=
 Yq (YR [1,3,18,19] [.norm [1]] [Yf 6 0 1,Yl 7 1 6,Yf 8 1 1,Yl 9 1 8,Yf 10 2 1,Yl 11 1 10,Yf 12 3 1,Yl 13 1 12,Yf 14 4 1,Yl 15 1 14,Yf 16 5 1,Yl 17 1 16,Yo 18 (.build [i64 0,i64 0,i64 0,i64 0,i64 0,i64 0] [(0,1,.s 7),(1,1,.s 9),(2,1,.s 11),(3,1,.s 13),(4,1,.s 15),(5,1,.s 17)]),Yc 19 0] z6eb) z2gb
def z5eb:z1c:=
 Yr [1,3] [Yv 3 1] z8db
def z8Ba:z1ka:=
 {n:=1,wr:=[],res:=[.t 2],body:=YR [1] [.norm [1]] [Yx 1 1 8 0,Yv 2 1] z5eb}
def z5va:z1c:=
 YR [4] [.norm [2,3]] [Yf 11 0 2,Yl 12 2 11,Yf 13 0 3,Yl 14 3 13,Yb 15 .eql 12 14,Ym 16 15,YG 16 (Yf 17 1 2),YG 16 (Yl 18 2 17),YG 16 (Yf 19 1 3),YG 16 (Yl 20 3 19),YG 16 (Yb 21 .eql 18 20),Yp 22 16 21,Ym 23 22,YG 23 (Yf 24 2 2),YG 23 (Yl 25 2 24),YG 23 (Yf 26 2 3),YG 23 (Yl 27 3 26),YG 23 (Yb 28 .eql 25 27),Yp 29 23 28,Ym 30 29,YG 30 (Yf 31 3 2),YG 30 (Yl 32 2 31),YG 30 (Yf 33 3 3),YG 30 (Yl 34 3 33),YG 30 (Yb 35 .eql 32 34),Yp 36 30 35,Ym 37 36,YG 37 (Yf 38 4 2),YG 37 (Yl 39 2 38),YG 37 (Yf 40 4 3),YG 37 (Yl 41 3 40),YG 37 (Yb 42 .eql 39 41),Yp 43 37 42,Ym 44 43,YG 44 (Yf 45 5 2),YG 44 (Yl 46 2 45),YG 44 (Yf 47 5 3),YG 44 (Yl 48 3 47),YG 44 (Yb 49 .eql 46 48),Yp 50 44 49,Ym 51 50,YG 51 (Yf 52 6 2),YG 51 (Yl 53 2 52),YG 51 (Yf 54 6 3),YG 51 (Yl 55 3 54),YG 51 (Yb 56 .eql 53 55),Yp 57 51 56,Ym 58 57,YG 58 (Ym 59 5),YG 58 (Ym 60 6),YG 58 (YK 61 132 59 60),Yp 62 58 61,Ym 4 62] .ret
def z6qb:z1c:=
 YR [2,3,5,6] [.norm [2,3]] [Yf 7 7 2,Yl 8 2 7,Yf 9 7 3,Yl 10 3 9,YM 5 8,YM 6 10] z5va
def z0Fa:z1ka:=
 {n:=2,wr:=[],res:=[.t 4],body:=YR [2,3] [.norm [2,3]] [Yx 2 2 8 0,Yx 3 3 8 1,Yw 4 false] z6qb}
def z8hb:z1c:=
 Yd 20 (Yu [3,9,10,11] [Yo 21 .unsup,YO .unsup]) (Yy [3,9,10,11])
def z1jb:z1c:=
 Yr [3,9,10,11,20] [Ym 19 3,YB 20 .lss 19 0] z8hb
def z4hb:z1c:=
 Yr [3,9,10,11] [Ym 15 3,YM 16 5,Yn 17 16,Yb 18 .add 15 17,Ym 3 18] z1jb
def z5jb:z1c:=
 Yq (.block 1 (Yr [3,5,9,10,11] [Yi 13 1 9 11,Yj 14 13,YM 5 14] z4hb)) (Yu [3,9,10,11] [YB 22 .add 11 1,Ym 11 22])
def z5Va:z1c:=
 Yq (Yd 12 (Yy [3,9,10,11]) (YY [3])) z5jb
def z0Wa:z1c:=
 Yr [3,9,10,11,12] [Yb 12 .lss 11 10] z5Va
def z8jb:z1c:=
 .block 0 (.loop z0Wa)
def z4cb:z1c:=
 Yu [6,25,26,27] [YM 31 6,YM 32 8,YN 33 1 1 31 32,YM 6 33]
def z5fb:z1c:=
 Yq (.block 3 (Yr [6,8,25,26,27] [Yi 29 1 25 27,Yj 30 29,YM 8 30] z4cb)) (Yu [6,25,26,27] [YB 34 .add 27 1,Ym 27 34])
def z4Qa:z1c:=
 Yq (Yd 28 (Yy [6,25,26,27]) (.ghost (.keep [6]) (.exit 2))) z5fb
def z3Wa:z1c:=
 Yr [6,25,26,27,28] [Yb 28 .lss 27 26] z4Qa
def z4fb:z1c:=
 .block 2 (.loop z3Wa)
def z7eb:z1c:=
 Yr [2] [YM 35 6,YM 2 35] .ret
def z5hb:z1c:=
 Yq (Yr [6,25,26,27] [Ym 25 0,Yn 26 25,Yc 27 0] z4fb) z7eb
def z9ib:z1c:=
 Yr [6] [Ym 23 3,Yo 24 (.call 139 [.c (.lit (.slice none 0 0)),.s 23] []),YM 6 24] z5hb
def z3ib:z1c:=
 Yq (Yr [3,9,10,11] [Ym 9 0,Yn 10 9,Yc 11 0] z8jb) z9ib
def z3hb:z1c:=
 Yr [3] [Yc 3 0] z3ib
def z9Ca:z1ka:=
 {n:=1,wr:=[],res:=[.t 2],body:=Yr [] [Yv 2 1] z3hb}
def z81a:z1c:=
 Yd 10 (Yr [4] [Yw 4 false] .ret) (Yy [])
def z13a:z1c:=
 Yd 24 (Yr [4] [Yw 4 false] .ret) (Yy [12,13])
def z61a:z1c:=
 Yr [12,13,24] [Ym 16 0,Ym 17 5,Yi 18 1 16 17,Yj 19 18,Ym 20 1,Ym 21 5,Yi 22 1 20 21,Yj 23 22,Yb 24 .neq 19 23] z13a
def z21a:z1c:=
 Yq (.block 1 (Yr [5,12,13] [Ym 15 13,Ym 5 15] z61a)) (Yu [12,13] [YB 25 .add 13 1,Ym 13 25])
def z8Oa:z1c:=
 Yq (Yd 14 (Yy [12,13]) (YY [])) z21a
def z7Oa:z1c:=
 Yr [12,13,14] [Yb 14 .lss 13 12] z8Oa
def z0qb:z1c:=
 .block 0 (.loop z7Oa)
def z2nb:z1c:=
 Yr [4] [Yw 4 true] .ret
def z1ob:z1c:=
 Yq (Yr [12,13] [Ym 11 0,Yn 12 11,Yc 13 0] z0qb) z2nb
def z41a:z1c:=
 Yq (Yr [10] [Ym 6 0,Yn 7 6,Ym 8 1,Yn 9 8,Yb 10 .neq 7 9] z81a) z1ob
def z5Ca:z1ka:=
 {n:=2,wr:=[],res:=[.t 4],body:=Yr [] [Yw 4 false] z41a}
end Go.Abs
end

section
namespace Go.Abs
end Go.Abs
end

section
namespace Go.Abs
end Go.Abs
end
