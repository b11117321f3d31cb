/- Lemmas: an abstract interpreter, and what the functions compute. -/
import Derived.Test.YtepddcbbkhdfiaaGreatDoorF
set_option linter.unusedSimpArgs false
set_option linter.unusedVariables false
set_option linter.unusedSectionVars false
section
namespace Go.Abs

def z0gc (bx:List Nat):Nat→List z2a→List (Nat×z2a)
 |_,[]=>[]
 |i,d::ds=>(i,if bx.contains i then .bp i 0 else dem d)::z0gc bx (i+1) ds
def z34a (bx:List Nat) (p:Nat→Value) (ds:List z2a):ASt:=
 {org:=bx.map fun j=>(j,.lit (p j)),env:=z0gc bx 0 ds,box:=bx.map fun j=>(j,some (z4L (ds.getD j .undef)))}

def z2Nc (res:List z4Fa) (c:CM) (p:Nat→Value) (ds:List z2a):z7h→ASt→Prop
 | .normal,st| .ret,st=>(∀r∈res,z3Fa st r)∧z7U st res=c.post ds∧(∀j∈c.bx,lk st.org j=some (.lit (p j))∧st.get j= .bp j 0)∧(∀j∈c.bx++c.nb,st.getB j=some (c.out ds j))∧
  (∀id∈z5m (c.post ds),id∈c.bx++c.nb)∧(∀j∈c.bx++c.nb,∀id∈z9f (c.out ds j),id∈c.bx++c.nb)
 |_,_=>False

section
variable {K : Cx} {base : z3s} {n : Nat} {st : ASt} {a : Act} {w : World}

theorem z1zb (bx:List Nat):∀(ds:List z2a) (i s:Nat),lk (z0gc bx i ds) s=if i≤s then(ds[s-i]?).map fun d=>if bx.contains s then z2a.bp s 0 else dem d else none
 |[],i,s=>by simp[z0gc,lk]
 |d::ds,i,s=>by
  simp only[z0gc,lk]
  by_cases h:s=i
  ·subst h;simp
  ·rw[if_neg h,z1zb bx ds (i+1) s]
   by_cases hi:i≤s
   ·rw[if_pos hi,if_pos (by omega),show s-i=(s-(i+1))+1 by omega]
    simp
   ·rw[if_neg hi,if_neg (by omega)]
theorem z7xa {α:Type} (f:Nat→α) (s:Nat):∀l:List Nat,lk (l.map fun s=>(s,f s)) s=if s∈l then some (f s) else none
 |[]=>by simp[lk]
 |t::l=>by
  simp only[List.map_cons,lk,List.mem_cons]
  by_cases h:s=t
  ·subst h;simp
  ·rw[if_neg h,z7xa f s l]
   simp only[h,false_or]

theorem z0ec {g:Gh} {c:CM} {ds:List z2a} {vs:List Value} (hI:Inv K ⟨w,Wr g,g.S,[],g.mu⟩ g w (c.ins ds)) (hA:z2ac K c g w ds vs) (hb:∀j∈c.bx,j<ds.length) (m:Nat) (hm:vs.length+m=n):
  Rel K ⟨w,Wr g,g.S,[],g.mu⟩ n (z34a c.bx (fun j=> .pointer (some ⟨(g.mu j).getD 0,0,none⟩)) ds) {tmps:=vs.toArray++Array.replicate m undef,defers:=[]} w:=by
 obtain⟨hlen,hA⟩:=hA
 have hget:∀s v,vs[s]? =some v→(vs.toArray++Array.replicate m undef).getD s undef=v:=fun s v hv=>by
  have hs:s<vs.length:=(List.getElem?_eq_some_iff.1 hv).1
  rw[Array.getD_eq_getD_getElem?,Array.getElem?_append_left (by simpa using hs)]
  simp[hv]
 have harg:∀s d,ds[s]? =some d→∃v,vs[s]? =some v∧if s∈c.bx then∃b,g.mu s=some b∧v= .pointer (some ⟨b,0,none⟩) else z6c K.toCon g.S w d v:=fun s d hd=>by
  have hs:s<vs.length:=by have:=(List.getElem?_eq_some_iff.1 hd).1;omega
  exact⟨vs[s],List.getElem?_eq_getElem hs,hA s d _ hd (List.getElem?_eq_getElem hs)⟩
 have hgb:(z34a c.bx (fun j=> .pointer (some ⟨(g.mu j).getD 0,0,none⟩)) ds).getB=c.ins ds:=funext fun j=>by
  simp only[ASt.getB,z34a,z7xa fun j=>some (z4L (ds.getD j .undef)),CM.ins]
  split<;>rfl
 have horg:∀s,lk (z34a c.bx (fun j=> .pointer (some ⟨(g.mu j).getD 0,0,none⟩)) ds).org s=if s∈c.bx then some (.lit (.pointer (some ⟨(g.mu s).getD 0,0,none⟩))) else none:=fun s=>
  z7xa (fun j=>z2a.lit (.pointer (some ⟨(g.mu j).getD 0,0,none⟩))) s c.bx
 refine⟨g,by rw[hgb];exact hI,fun s=> ?_,fun s d hs=> ?_,rfl,by simp;exact hm⟩
 ·unfold ASt.get
  rw[horg]
  show Rep K.toCon g w (some (.slot s)) (match lk (z0gc c.bx 0 ds) s with|some d=>d|none=>_) _
  rw[z1zb,if_pos (Nat.zero_le _),Nat.sub_zero]
  cases hd:ds[s]? with
  |none=>
   have hns:s∉c.bx:=fun h=>by have:=hb s h;rw[List.getElem?_eq_none_iff] at hd;omega
   simp[hns,Abs.dem,Rep]
  |some d=>
   obtain⟨v,hv,hr⟩:=harg s d hd
   rw[hget s v hv]
   simp only[Option.map_some,List.contains_iff_mem]
   by_cases hs:s∈c.bx
   ·rw[if_pos hs] at hr⊢
    obtain⟨b,hb,rfl⟩:=hr
    simp only[Rep]
    exact⟨b,hb,rfl⟩
   ·rw[if_neg hs] at hr⊢
    exact z6c.dem (g:=g) _ hr
 ·rw[horg] at hs
  split at hs
  ·rename_i hm
   cases hs
   obtain⟨v,hv,hr⟩:=harg s _ (List.getElem?_eq_getElem (hb s hm))
   rw[if_pos hm] at hr
   obtain⟨b,hb,rfl⟩:=hr
   show z6c _ _ _ _ _
   rw[hget s _ hv]
   simp[z6c,hb]
  ·cases hs

theorem z2Hb {g:Gh} {getB:Nat→Option (List z2a)} (hI:Inv K base g w getB) (js:List Nat) {out:Nat→List z2a} (h1:∀j∈js,getB j=some (out j)) (h2:∀j∈js,∀id∈z9f (out j),id∈js):
  Inv K base {g with mu:=fun j=>if j∈js then g.mu j else none} w (fun j=>if j∈js then some (out j) else none):=by
 refine⟨hI.fr,hI.sS,fun i j b hi hj=> ?_,fun id cs hc=> ?_,fun id hid=> ?_,fun id b hb=> ?_,hI.owW,hI.glob,hI.kp,fun id b cs ho hb hc hd=> ?_,fun id b h3 h4 hb=>by
  replace hb:(if id∈js then g.mu id else none)=some b:=hb
  split at hb
  ·exact hI.old id b h3 h4 hb
  ·cases hb⟩
 ·replace hi:(if i∈js then g.mu i else none)=some b:=hi
  replace hj:(if j∈js then g.mu j else none)=some b:=hj
  split at hi
  ·split at hj
   ·exact hI.inj i j b hi hj
   ·cases hj
  ·cases hi
 ·split at hc
  ·rename_i hm
   cases hc
   obtain⟨b,k1,k2,k3⟩:=hI.bxok id _ (h1 id hm)
   refine⟨b,by simp only[if_pos hm];exact k1,k2,fun i d hi=> ?_⟩
   obtain⟨⟨x,h4,h5⟩,h6⟩:=k3 i d hi
   exact⟨⟨x,h4,Rep.mono (g:=g) (g':={g with mu:=fun j=>if j∈js then g.mu j else none}) (z1g.refl g.S w) d x (some (.cell id i)) (some (.cell id i)) (fun id' hid' b' hb'=>by show(if id'∈js then g.mu id' else none)=some b';rw[if_pos (h2 id hm id' (z1Z (z7j hi) hid'))];exact hb') (fun m hm=>⟨m,hm,fun b hb=>⟨hb,rfl,fun _ _ h=>h⟩⟩) h5⟩,h6⟩
  ·cases hc
 ·show(if id∈js then g.mu id else none)=none
  replace hid:(if id∈js then some (out id) else none)=none:=hid
  split at hid
  ·cases hid
  ·rename_i hm;rw[if_neg hm]
 ·replace hb:(if id∈js then g.mu id else none)=some b:=hb
  split at hb
  ·exact hI.muW id b hb
  ·cases hb
 ·replace hb:(if id∈js then g.mu id else none)=some b:=hb
  split at hb
  ·rename_i hm
   rw[if_pos hm] at hc
   cases hc
   exact hI.obok id b _ ho hb (h1 id hm) hd
  ·cases hb

theorem z3Db {f:Nat} {fn:Func} {F:z6e} {c:CM} (hf:K.P.funcs[K.nu f]? =some fn) (hc:z2f K F fn=true) (hs:z5Vb K F.body) (hb:∀j∈c.bx,j<F.n)
  (h:∀ds p,c.pre ds→ds.length=F.n∧awp K.E F.body (z2Nc F.res c p ds) (z34a c.bx p ds)) (ht:z0s F.body=true):z5y K f c:=by
 simp only[z2f,Bool.and_eq_true,Bool.not_eq_true',decide_eq_true_eq] at hc
 obtain⟨⟨⟨hname,hbody⟩,hres⟩,hsz⟩:=hc
 cases hbd:fn.body with
 |none=>rw[hbd] at hbody;cases hbody
 |some code=>
  rw[hbd] at hbody
  simp only at hbody
  refine⟨⟨fn,hf,by rw[hbd];rfl,hname⟩,fun g0 w ds vs hI0 hA hpre=> ?_⟩
  obtain⟨hlen,hw⟩:=h ds (fun j=> .pointer (some ⟨(g0.mu j).getD 0,0,none⟩)) hpre
  have hl2:=hA.1
  refine callsIn_wide.1 (callsIn_of_wp_marks (F:=WF none) (n:=0) hf hbd (z3eb none _) ?_)
  have hR:=z0ec (n:=fn.ntmps) hI0 hA (fun j hj=>by rw[hlen];exact hb j hj) (fn.ntmps-vs.length) (by omega)
  have hwp:=hs fn.ntmps code _ _ _ _ w hbody (.inl ht) hw hR
  simp only[List.size_toArray]
  refine wpIn_mono hwp fun e a' w' hl=> ?_
  have fin:∀st g w',Inv K ⟨w,Wr g0,g0.S,[],g0.mu⟩ g w' st.getB→z3e K g w' st.get a'→(∀j∈c.bx,lk st.org j=some (.lit (.pointer (some ⟨(g0.mu j).getD 0,0,none⟩)))→a'.tmps.getD j undef= .pointer (some ⟨(g0.mu j).getD 0,0,none⟩))→z2Nc F.res c (fun j=> .pointer (some ⟨(g0.mu j).getD 0,0,none⟩)) ds .ret st→
    ∃v,(results fn a'.tmps).run K.P w'= .ok v w'∧∃v' g',Ending.returned v= .returned v'∧Inv K ⟨w,Wr g0,g0.S,[],g0.mu⟩ g' w' (c.outs ds)∧(∀j∈c.bx,g'.mu j=g0.mu j)∧Rep K.toCon g' w' (some .ret) (c.post ds) v':=fun st g w' hI hS hO hq=>by
   obtain⟨hok,hval,hbx,hout,hr1,hr2⟩:=hq
   obtain⟨xs,h1,h2,h3,_⟩:=z5Ma hI hS hres hok
   have hmap:fn.results.mapM (z14 a'.tmps)=Functor.map List.toArray (fn.results.toList.mapM (z14 a'.tmps)):=by
    exact Array.mapM_eq_mapM_toList
   have hrun:(results fn a'.tmps).run K.P w'= .ok (if h:xs.toArray.size=1 then xs.toArray[0] else .tuple xs.toArray) w':=by
    have:results fn a'.tmps=(do
     let vs←fn.results.mapM (z14 a'.tmps)
     pure (if h:vs.size=1 then vs[0] else .tuple vs)):=rfl
    rw[this,hmap]
    simp only[map_eq_pure_bind,Sem.run_bind,h1,Result.andThen_ok,Sem.run_pure]
   refine⟨_,hrun,?_⟩
   let g':Gh:={g with mu:=fun j=>if j∈c.bx++c.nb then g.mu j else none}
   have hI':Inv K ⟨w,Wr g0,g0.S,[],g0.mu⟩ g' w' (c.outs ds):=z2Hb hI (c.bx++c.nb) hout hr2
   have hmu:∀j∈c.bx,g'.mu j=g0.mu j:=fun j hj=>by
    obtain⟨k1,k2⟩:=hbx j hj
    have e1:=hO j hj k1
    have e2:=hS j
    rw[k2] at e2
    simp only[Rep] at e2
    obtain⟨b,hb1,hb2⟩:=e2
    rw[hb2] at e1
    simp only[Value.pointer.injEq,Option.some.injEq,Addr.mk.injEq,and_true] at e1
    obtain⟨d,hd⟩:∃d,ds[j]? =some d:=⟨_,List.getElem?_eq_getElem (by rw[hlen];exact hb j hj)⟩
    have:=hA.2 j d (vs[j]'(by rw[←hl2,hlen];exact hb j hj)) hd (List.getElem?_eq_getElem _)
    rw[if_pos hj] at this
    obtain⟨b',hb',_⟩:=this
    rw[hb'] at e1
    simp only[Option.getD_some] at e1
    simp only[g',if_pos (List.mem_append_left c.nb hj)]
    rw[hb1,hb',e1]
   have cut:∀{d:z2a} {v:Value} {l:Option Loc},(∀id∈z5m d,id∈c.bx++c.nb)→Rep K.toCon g w' l d v→Rep K.toCon g' w' l d v:=fun {d v l} hd hr=>
    Rep.mono (g:=g) (g':=g') (z1g.refl g.S w') d v l l (fun id hid b hb=>by simp only[g',if_pos (hd id hid)];exact hb) (fun m hm=>⟨m,hm,fun b hb=>⟨hb,rfl,fun _ _ h=>h⟩⟩) hr
   by_cases hone:∃s,F.res=[.t s]
   ·obtain⟨s,hs⟩:=hone
    have hx:=h3 s hs
    subst hx
    rw[hs] at hval
    simp only[z7U] at hval
    refine⟨a'.tmps.getD s undef,z4H g' (.slot s) .ret,by simp,z17 hI' s .ret,hmu,?_⟩
    rw[←hval] at hr1⊢
    exact z1r (cut hr1 (hS s))
   ·have hl3:=h2.len
    simp only[List.length_map] at hl3
    have rest:∀{d:z2a} {v:Value},Rep K.toCon g w' none d v→z5e d=false→d=c.post ds→Rep K.toCon g' w' (some .ret) (c.post ds) v:=fun {d v} hr ho he=>by
     subst he;exact z8T _ ho (cut hr1 hr)
    have hdem:∀d:z2a,z5e (dem d)=false:=z4M
    cases hF:F.res with
    |nil=>
     rw[hF] at h2 hval hl3
     simp only[List.map_nil,z5d] at h2
     subst h2
     refine⟨_,g',rfl,hI',hmu,?_⟩
     refine rest (d:= .tup []) ?_ rfl (by rw[←hval];rfl)
     simp[Rep,z5d]
    |cons r rs=>
     rw[hF] at h2 hval hl3 hone
     cases rs with
     |nil=>
      simp only[List.map_cons,List.map_nil,z5d] at h2
      obtain⟨x,ys,rfl,h4,rfl⟩:=h2
      refine⟨x,g',by simp,hI',hmu,?_⟩
      cases r with
      |t s=>exact absurd ⟨s,rfl⟩ hone
      |o s=>
       simp only[z7U] at hval
       exact rest h4 (hdem _) hval
      |cell s k id=>
       simp only[z7U] at hval
       refine rest h4 ?_ hval
       cases k with
       |none=>exact hdem _
       |some n=>rfl
     |cons r2 rs=>
      have h5:¬(xs.toArray.size=1):=by simp only[List.size_toArray,←hl3,List.length_cons];omega
      refine⟨.tuple xs.toArray,g',by rw[dif_neg h5],hI',hmu,?_⟩
      refine rest (d:= .tup ((r::r2::rs).map (z24a st))) ?_ rfl (by rw[←hval];cases r<;>rfl)
      simp only[Rep]
      exact⟨_,rfl,by simpa using h2⟩
  cases e<;>simp only[z2Pa] at hl<;>simp only[bodyPostM]
  ·obtain⟨b',hE,st,hR',hq⟩:=hl
   exact z6Qb hE rfl hR' fun g w' hI hS hO=>fin st g w' hI hS (fun j _ hj=>by have:=hO j _ hj;simpa[z6c] using this) hq
  ·obtain⟨b',hE,st,_,hq⟩:=hl
   exact hq
  ·obtain⟨b',hE,st,hR',hq⟩:=hl
   exact z6Qb hE rfl hR' fun g w' hI hS hO=>fin st g w' hI hS (fun j _ hj=>by have:=hO j _ hj;simpa[z6c] using this) hq

theorem z5Wa {f:Nat} {fn:Func} {F:z6e} {c:CM} (hf:K.P.funcs[K.nu f]? =some fn) (hc:z2f K F fn=true) (hv:∀p∈z7b F.body,VB K p) (hb:∀j∈c.bx,j<F.n)
  (h:∀ds p,c.pre ds→ds.length=F.n∧awp K.E F.body (z2Nc F.res c p ds) (z34a c.bx p ds)) (hfl:z6m F.body=true) (ht:z0s F.body=true):z5y K f c:=z3Db hf hc (z0ca hv hfl) hb h ht
end
end Go.Abs
end

section
namespace Go.Abs

def u8 (x:UInt8):z2a:= .lit (.int .u8 x.toNat)
def u32 (x:UInt32):z2a:= .lit (.int .u32 x.toNat)
def u64 (x:UInt64):z2a:= .lit (.int .u64 x.toNat)
def i64 (x:Int):z2a:= .lit (.int .i64 x)
def bo (x:Bool):z2a:= .lit (.bool x)
def st (l:List UInt8):z2a:= .lit (.string ⟨l.toArray⟩)
def bys (l:List UInt8):List z2a:=l.map u8
def z6o (l:List UInt32):List z2a:=l.map u32
def W (n:Int):Int:=IntKind.i64.wrap n

theorem z9a {n:Int} (h0: -9223372036854775808≤n) (h1:n≤9223372036854775807):W n=n:=by
 unfold W IntKind.wrap IntKind.bits IntKind.signed
 simp only[Bool.true_and,decide_eq_true_eq]
 split<;>omega

theorem z0Za (n:Nat):IntKind.u8.wrap (n:Int)=((n% 256:Nat):Int):=by
 unfold IntKind.wrap IntKind.bits IntKind.signed
 simp
theorem z8Ca (n:Nat):IntKind.u32.wrap (n:Int)=((n% 4294967296:Nat):Int):=by
 unfold IntKind.wrap IntKind.bits IntKind.signed
 simp
theorem z5sa (n:Nat):IntKind.u64.wrap (n:Int)=((n% 18446744073709551616:Nat):Int):=by
 unfold IntKind.wrap IntKind.bits IntKind.signed
 simp

section looks
@[simp] theorem z82b (x:UInt8):asI (u8 x)=x.toNat:=rfl
@[simp] theorem z3Zc (x:UInt32):asI (u32 x)=x.toNat:=rfl
@[simp] theorem z68c (x:UInt64):asI (u64 x)=x.toNat:=rfl
@[simp] theorem z2Xb (x:Int):asI (i64 x)=x:=rfl
@[simp] theorem z3Lc (x:Bool):asB (bo x)=x:=rfl
@[simp] theorem asS_st (l:List UInt8):asS (st l)=⟨l.toArray⟩:=rfl
@[simp] theorem isB_bo (x:Bool):isB (bo x)↔True:=by simp[isB,bo]
@[simp] theorem isI_u8 (x:UInt8):isI (u8 x)↔True:=by simp[isI,u8]
@[simp] theorem z0ae (x:UInt32):isI (u32 x)↔True:=by simp[isI,u32]
@[simp] theorem z8ge (x:UInt64):isI (u64 x)↔True:=by simp[isI,u64]
@[simp] theorem z9ae (x:Int):isI (i64 x)↔True:=by simp[isI,i64]
@[simp] theorem z25d (x:UInt8):z19c .u8 (u8 x)↔True:=by simp[z19c,u8]
@[simp] theorem isS_st (l:List UInt8):isS (st l)↔True:=by simp[isS,st]
@[simp] theorem dem_u8 (x:UInt8):dem (u8 x)=u8 x:=rfl
@[simp] theorem z37d (x:UInt32):dem (u32 x)=u32 x:=rfl
@[simp] theorem z13d (x:UInt64):dem (u64 x)=u64 x:=rfl
@[simp] theorem z9ce (x:Int):dem (i64 x)=i64 x:=rfl
@[simp] theorem dem_bo (x:Bool):dem (bo x)=bo x:=rfl
@[simp] theorem dem_st (x:List UInt8):dem (st x)=st x:=rfl
@[simp] theorem z6td (x:UInt8):z0d (u8 x)↔True:=by simp[z0d,u8]
@[simp] theorem z7md (x:UInt32):z0d (u32 x)↔True:=by simp[z0d,u32]
@[simp] theorem z7id (x:UInt64):z0d (u64 x)↔True:=by simp[z0d,u64]
@[simp] theorem z6jd (x:Int):z0d (i64 x)↔True:=by simp[z0d,i64]
@[simp] theorem z8Nd (x:Bool):z0d (bo x)↔True:=by simp[z0d,bo]
@[simp] theorem z0Cd (x:List UInt8):z0d (st x)↔True:=by simp[z0d,st]
@[simp] theorem z0Rd (x:UInt8):z8d (u8 x)=true:=rfl
@[simp] theorem z2yd (x:UInt32):z8d (u32 x)=true:=rfl
@[simp] theorem z0Id (x:UInt64):z8d (u64 x)=true:=rfl
@[simp] theorem z2Dd (x:Int):z8d (i64 x)=true:=rfl
@[simp] theorem z7Yd (x:Bool):z8d (bo x)=true:=rfl
@[simp] theorem z2Zd (x:List UInt8):z8d (st x)=true:=rfl
@[simp] theorem z1nd (x:UInt8):z5b (u8 x)=true:=rfl
@[simp] theorem z64c (x:UInt32):z5b (u32 x)=true:=rfl
@[simp] theorem z3Uc (x:UInt64):z5b (u64 x)=true:=rfl
@[simp] theorem z26c (x:Int):z5b (i64 x)=true:=rfl
@[simp] theorem z4kd (x:Bool):z5b (bo x)=true:=rfl
@[simp] theorem z0md (x:List UInt8):z5b (st x)=true:=rfl
@[simp] theorem z5ee (x:UInt8):z5m (u8 x)=[]:=rfl
@[simp] theorem z9Wd (x:UInt32):z5m (u32 x)=[]:=rfl
@[simp] theorem z6Wd (x:UInt64):z5m (u64 x)=[]:=rfl
@[simp] theorem z1Zd (x:Int):z5m (i64 x)=[]:=rfl
@[simp] theorem z1ge (x:Bool):z5m (bo x)=[]:=rfl
@[simp] theorem z82d (x:List UInt8):z5m (st x)=[]:=rfl
@[simp] theorem z7Gd (x:UInt8):z5e (u8 x)=false:=rfl
@[simp] theorem z5md (x:UInt32):z5e (u32 x)=false:=rfl
@[simp] theorem z9ld (x:UInt64):z5e (u64 x)=false:=rfl
@[simp] theorem z6fd (x:Int):z5e (i64 x)=false:=rfl
@[simp] theorem z0Bd (x:Bool):z5e (bo x)=false:=rfl
@[simp] theorem z3qd (x:List UInt8):z5e (st x)=false:=rfl
@[simp] theorem z3od (x:UInt8):z5q (u8 x)=[u8 x]:=rfl
@[simp] theorem z7ld (x:UInt32):z5q (u32 x)=[u32 x]:=rfl
@[simp] theorem z2jd (x:UInt64):z5q (u64 x)=[u64 x]:=rfl
@[simp] theorem z7kd (x:Int):z5q (i64 x)=[i64 x]:=rfl
@[simp] theorem z0Hd (x:Bool):z5q (bo x)=[bo x]:=rfl
@[simp] theorem z7zd (x:List UInt8):z5q (st x)=[st x]:=rfl
@[simp] theorem z69d (l:List UInt8):z9r (st l)=l.length:=by simp[z9r,st,ByteArray.size]
@[simp] theorem z2zd (bx:List z2a) (l:List UInt8):z8f bx (st l)=bys l:=by simp[z8f,st,bys,u8]
end looks

section arith
@[simp] theorem z83c (x y:Int):z3B .add (i64 x) (i64 y)=i64 (W (x+y)):=rfl
@[simp] theorem z1cd (x y:Int):z3B .sub (i64 x) (i64 y)=i64 (W (x-y)):=rfl
@[simp] theorem z59c (x y:Int):z3B .mul (i64 x) (i64 y)=i64 (W (x*y)):=rfl
@[simp] theorem z65c (x y:Int):z3B .quo (i64 x) (i64 y)=i64 (W (x.tdiv y)):=rfl
@[simp] theorem z29c (x y:Int):z3B .rem (i64 x) (i64 y)=i64 (x.tmod y):=rfl
@[simp] theorem z7Pc (x y:Int):z3B .eql (i64 x) (i64 y)=bo (x==y):=rfl
@[simp] theorem z4Sc (x y:Int):z3B .neq (i64 x) (i64 y)=bo (x !=y):=rfl
@[simp] theorem z2Rc (x y:Int):z3B .lss (i64 x) (i64 y)=bo (decide (x<y)):=rfl
@[simp] theorem z90c (x y:Int):z3B .leq (i64 x) (i64 y)=bo (decide (x≤y)):=rfl
@[simp] theorem z9cd (x y:Int):z3B .gtr (i64 x) (i64 y)=bo (decide (y<x)):=rfl
@[simp] theorem z24c (x y:Int):z3B .geq (i64 x) (i64 y)=bo (decide (y≤x)):=rfl

theorem z01 {n:Int} {x:UInt32} (h:n=x.toNat):z2a.lit (.int .u32 n)=u32 x:=by rw[h];rfl
theorem z4Da {n:Int} {x:UInt8} (h:n=x.toNat):z2a.lit (.int .u8 n)=u8 x:=by rw[h];rfl
theorem z7G {n:Int} {x:UInt64} (h:n=x.toNat):z2a.lit (.int .u64 n)=u64 x:=by rw[h];rfl

theorem z6bb (k n:Nat):(BitVec.ofInt k (n:Int)).toNat=n% 2^k:=by
 simp[BitVec.toNat_ofInt]
theorem z7Za (x:UInt32):BitVec.ofInt 32 (x.toNat:Int)=x.toBitVec:=by
 apply BitVec.eq_of_toNat_eq
 rw[z6bb]
 exact Nat.mod_eq_of_lt x.toNat_lt
theorem z4jc (x:UInt8):BitVec.ofInt 8 (x.toNat:Int)=x.toBitVec:=by
 apply BitVec.eq_of_toNat_eq
 rw[z6bb]
 exact Nat.mod_eq_of_lt x.toNat_lt
theorem z9jb (x:UInt64):BitVec.ofInt 64 (x.toNat:Int)=x.toBitVec:=by
 apply BitVec.eq_of_toNat_eq
 rw[z6bb]
 exact Nat.mod_eq_of_lt x.toNat_lt
theorem z1Ba (x:BitVec 32):IntKind.u32.wrap (x.toNat:Int)=(x.toNat:Int):=by rw[z8Ca,Nat.mod_eq_of_lt x.isLt]
theorem z4Kb (x:BitVec 8):IntKind.u8.wrap (x.toNat:Int)=(x.toNat:Int):=by rw[z0Za,Nat.mod_eq_of_lt x.isLt]
theorem z90a (x:BitVec 64):IntKind.u64.wrap (x.toNat:Int)=(x.toNat:Int):=by rw[z5sa,Nat.mod_eq_of_lt x.isLt]

@[simp] theorem z6Oc (x y:UInt32):z3B .add (u32 x) (u32 y)=u32 (x+y):=z01 (by
 show IntKind.u32.wrap ((x.toNat:Int)+y.toNat)=_
 rw[←Int.natCast_add,z8Ca,UInt32.toNat_add])
@[simp] theorem z9kd (x y:UInt8):z3B .add (u8 x) (u8 y)=u8 (x+y):=z4Da (by
 show IntKind.u8.wrap ((x.toNat:Int)+y.toNat)=_
 rw[←Int.natCast_add,z0Za,UInt8.toNat_add])
@[simp] theorem z1Oc (x y:UInt64):z3B .add (u64 x) (u64 y)=u64 (x+y):=z7G (by
 show IntKind.u64.wrap ((x.toNat:Int)+y.toNat)=_
 rw[←Int.natCast_add,z5sa,UInt64.toNat_add])
@[simp] theorem z57c (x y:UInt64):z3B .mul (u64 x) (u64 y)=u64 (x*y):=z7G (by
 show IntKind.u64.wrap ((x.toNat:Int)*y.toNat)=_
 rw[←Int.natCast_mul,z5sa,UInt64.toNat_mul])
@[simp] theorem z0Sc (x y:UInt32):z3B .and (u32 x) (u32 y)=u32 (x&&&y):=z01 (by
 show IntKind.u32.wrap ((BitVec.ofInt 32 x.toNat&&&BitVec.ofInt 32 y.toNat).toNat:Int)=_
 rw[z7Za,z7Za,z1Ba]
 rfl)
@[simp] theorem z7jd (x y:UInt32):z3B .or (u32 x) (u32 y)=u32 (x|||y):=z01 (by
 show IntKind.u32.wrap ((BitVec.ofInt 32 x.toNat|||BitVec.ofInt 32 y.toNat).toNat:Int)=_
 rw[z7Za,z7Za,z1Ba]
 rfl)
@[simp] theorem z20c (x y:UInt32):z3B .xor (u32 x) (u32 y)=u32 (x^^^y):=z01 (by
 show IntKind.u32.wrap ((BitVec.ofInt 32 x.toNat^^^BitVec.ofInt 32 y.toNat).toNat:Int)=_
 rw[z7Za,z7Za,z1Ba]
 rfl)
@[simp] theorem z9Pd (x y:UInt8):z3B .or (u8 x) (u8 y)=u8 (x|||y):=z4Da (by
 show IntKind.u8.wrap ((BitVec.ofInt 8 x.toNat|||BitVec.ofInt 8 y.toNat).toNat:Int)=_
 rw[z4jc,z4jc,z4Kb]
 rfl)
@[simp] theorem z2md (x y:UInt8):z3B .xor (u8 x) (u8 y)=u8 (x^^^y):=z4Da (by
 show IntKind.u8.wrap ((BitVec.ofInt 8 x.toNat^^^BitVec.ofInt 8 y.toNat).toNat:Int)=_
 rw[z4jc,z4jc,z4Kb]
 rfl)
@[simp] theorem z4fd (x y:UInt64):z3B .or (u64 x) (u64 y)=u64 (x|||y):=z7G (by
 show IntKind.u64.wrap ((BitVec.ofInt 64 x.toNat|||BitVec.ofInt 64 y.toNat).toNat:Int)=_
 rw[z9jb,z9jb,z90a]
 rfl)

@[simp] theorem z4gd (x y:UInt8):z3B .eql (u8 x) (u8 y)=bo (x==y):=by
 show z2a.lit (.bool ((x.toNat:Int)==y.toNat))= .lit (.bool _)
 congr 2
 rw[Bool.eq_iff_iff]
 simp only[beq_iff_eq,bne_iff_ne,ne_eq,←UInt8.toNat_inj]
 omega
@[simp] theorem z1kd (x y:UInt8):z3B .neq (u8 x) (u8 y)=bo (x !=y):=by
 show z2a.lit (.bool ((x.toNat:Int) !=y.toNat))= .lit (.bool _)
 congr 2
 rw[Bool.eq_iff_iff]
 simp only[beq_iff_eq,bne_iff_ne,ne_eq,←UInt8.toNat_inj]
 omega
@[simp] theorem z34c (x y:UInt64):z3B .eql (u64 x) (u64 y)=bo (x==y):=by
 show z2a.lit (.bool ((x.toNat:Int)==y.toNat))= .lit (.bool _)
 congr 2
 rw[Bool.eq_iff_iff]
 simp only[beq_iff_eq,bne_iff_ne,ne_eq,←UInt64.toNat_inj]
 omega
@[simp] theorem z6Xc (x y:UInt64):z3B .gtr (u64 x) (u64 y)=bo (decide (y<x)):=by
 show z2a.lit (.bool (decide ((x.toNat:Int)>y.toNat)))= .lit (.bool _)
 congr 2
 simp[UInt64.lt_iff_toNat_lt]
@[simp] theorem z8Rc (x y:UInt64):z3B .lss (u64 x) (u64 y)=bo (decide (x<y)):=by
 show z2a.lit (.bool (decide ((x.toNat:Int)<y.toNat)))= .lit (.bool _)
 congr 2
 simp[UInt64.lt_iff_toNat_lt]
@[simp] theorem z07c (x y:UInt64):z3B .rem (u64 x) (u64 y)=u64 (x% y):=z7G (by
 show((x.toNat:Int).tmod y.toNat)=_
 rw[UInt64.toNat_mod]
 rfl)
@[simp] theorem z9ed (x:UInt32):unV .xor (u32 x)=u32 (~~~x):=z01 (by
 show IntKind.u32.wrap ((BitVec.ofInt 32 4294967295^^^BitVec.ofInt 32 x.toNat).toNat:Int)=_
 rw[z7Za,z1Ba]
 have e:(BitVec.ofInt 32 4294967295)=BitVec.allOnes 32:=by decide
 rw[e,BitVec.allOnes_xor]
 rfl)
@[simp] theorem z2id (x:UInt64):unV .xor (u64 x)=u64 (~~~x):=z7G (by
 show IntKind.u64.wrap ((BitVec.ofInt 64 18446744073709551615^^^BitVec.ofInt 64 x.toNat).toNat:Int)=_
 rw[z9jb,z90a]
 have e:(BitVec.ofInt 64 18446744073709551615)=BitVec.allOnes 64:=by decide
 rw[e,BitVec.allOnes_xor]
 rfl)
@[simp] theorem un_not (x:Bool):unV .not (bo x)=bo (!x):=rfl
@[simp] theorem z8kd (x:Int):unV .neg (i64 x)=i64 (W (-x)):=by
 show z2a.lit (.int .i64 (IntKind.i64.wrap (0-x)))=_
 rw[Int.zero_sub];rfl
end arith

/-! ### Shifts and conversions -/
def z1eb (x:UInt32) (n:Nat):UInt32:=⟨x.toBitVec>>>n⟩
def z8ua (x:UInt32) (n:Nat):UInt32:=⟨x.toBitVec<<<n⟩
def z5J (x:UInt64) (n:Nat):UInt64:=⟨x.toBitVec>>>n⟩
def z0pd (x:UInt64) (n:Nat):UInt64:=⟨x.toBitVec<<<n⟩

theorem z7eb (b n:Nat) (x:BitVec b):((x.toNat:Int).fdiv (2^min n b))=((x>>>n).toNat:Int):=by
 have h2:((2:Int)^min n b)=((2^min n b:Nat):Int):=by simp
 rw[h2,BitVec.toNat_ushiftRight,Nat.shiftRight_eq_div_pow]
 have:((x.toNat:Int).fdiv ((2^min n b:Nat):Int))=((x.toNat/2^min n b:Nat):Int):=by
  rw[Int.fdiv_eq_ediv_of_nonneg _ (Int.natCast_nonneg _)]
  rfl
 rw[this]
 rcases Nat.le_total n b with h|h
 ·rw[Nat.min_eq_left h]
 ·rw[Nat.min_eq_right h,Nat.div_eq_of_lt x.isLt,Nat.div_eq_of_lt]
  exact Nat.lt_of_lt_of_le x.isLt (Nat.pow_le_pow_right (by decide) h)

theorem z4ab (b n:Nat) (x:BitVec b):(x.toNat*2^min n b)% 2^b=(x<<<n).toNat:=by
 rw[BitVec.toNat_shiftLeft,Nat.shiftLeft_eq]
 rcases Nat.le_total n b with h|h
 ·rw[Nat.min_eq_left h]
 ·rw[Nat.min_eq_right h,Nat.mul_mod_left]
  obtain⟨k,rfl⟩:=Nat.exists_eq_add_of_le h
  rw[Nat.pow_add,←Nat.mul_assoc,Nat.mul_right_comm,Nat.mul_mod_left]

theorem z5Qa (x n b:Nat):((x:Int)*2^min n b)=((x*2^min n b:Nat):Int):=by simp

@[simp] theorem z4Nc (x:UInt32) (n:Int):z3B .shr (u32 x) (i64 n)=u32 (z1eb x n.toNat):=z01 (z7eb 32 n.toNat x.toBitVec)
@[simp] theorem z9Fc (x:UInt32) (n:UInt64):z3B .shr (u32 x) (u64 n)=u32 (z1eb x n.toNat):=z01 (z7eb 32 n.toNat x.toBitVec)
@[simp] theorem z35c (x:UInt64) (n:Int):z3B .shr (u64 x) (i64 n)=u64 (z5J x n.toNat):=z7G (z7eb 64 n.toNat x.toBitVec)
@[simp] theorem z5Hc (x:UInt64) (n:UInt64):z3B .shr (u64 x) (u64 n)=u64 (z5J x n.toNat):=z7G (z7eb 64 n.toNat x.toBitVec)
@[simp] theorem z92c (x:UInt32) (n:Int):z3B .shl (u32 x) (i64 n)=u32 (z8ua x n.toNat):=z01 (by
 show IntKind.u32.wrap ((x.toNat:Int)*2^min n.toNat 32)=_
 rw[z5Qa,z8Ca]
 exact congrArg _ (z4ab 32 n.toNat x.toBitVec))
@[simp] theorem z1Dc (x:UInt32) (n:UInt64):z3B .shl (u32 x) (u64 n)=u32 (z8ua x n.toNat):=z01 (by
 show IntKind.u32.wrap ((x.toNat:Int)*2^min n.toNat 32)=_
 rw[z5Qa,z8Ca]
 exact congrArg _ (z4ab 32 n.toNat x.toBitVec))
@[simp] theorem z77c (x:UInt64) (n:Int):z3B .shl (u64 x) (i64 n)=u64 (z0pd x n.toNat):=z7G (by
 show IntKind.u64.wrap ((x.toNat:Int)*2^min n.toNat 64)=_
 rw[z5Qa,z5sa]
 exact congrArg _ (z4ab 64 n.toNat x.toBitVec))
@[simp] theorem z9Kc (x:UInt64) (n:UInt64):z3B .shl (u64 x) (u64 n)=u64 (z0pd x n.toNat):=z7G (by
 show IntKind.u64.wrap ((x.toNat:Int)*2^min n.toNat 64)=_
 rw[z5Qa,z5sa]
 exact congrArg _ (z4ab 64 n.toNat x.toBitVec))

@[simp] theorem z99c (x y:UInt64):z3B .sub (u64 x) (u64 y)=u64 (x-y):=z7G (by
 show IntKind.u64.wrap ((x.toNat:Int)-y.toNat)=_
 rw[UInt64.toNat_sub]
 have:=x.toNat_lt
 have:=y.toNat_lt
 unfold IntKind.wrap IntKind.bits IntKind.signed
 simp only[Bool.false_and,Bool.false_eq_true,if_false]
 omega)
@[simp] theorem z2Vc (x y:UInt64):z3B .and (u64 x) (u64 y)=u64 (x&&&y):=z7G (by
 show IntKind.u64.wrap ((BitVec.ofInt 64 x.toNat&&&BitVec.ofInt 64 y.toNat).toNat:Int)=_
 rw[z9jb,z9jb,z90a]
 rfl)

@[simp] theorem z8Cd (x:UInt32):cvV .u8 (u32 x)=u8 x.toUInt8:=z4Da (by
 show IntKind.u8.wrap (x.toNat:Int)=_
 rw[z0Za,UInt32.toNat_toUInt8])
@[simp] theorem z5vd (x:UInt64):cvV .u8 (u64 x)=u8 x.toUInt8:=z4Da (by
 show IntKind.u8.wrap (x.toNat:Int)=_
 rw[z0Za,UInt64.toNat_toUInt8])
@[simp] theorem z6Nd (x:UInt8):cvV .u32 (u8 x)=u32 x.toUInt32:=z01 (by
 show IntKind.u32.wrap (x.toNat:Int)=_
 rw[z8Ca,UInt8.toNat_toUInt32,Nat.mod_eq_of_lt (by have:=x.toNat_lt;omega)])
@[simp] theorem z7Id (x:UInt8):cvV .u64 (u8 x)=u64 x.toUInt64:=z7G (by
 show IntKind.u64.wrap (x.toNat:Int)=_
 rw[z5sa,UInt8.toNat_toUInt64,Nat.mod_eq_of_lt (by have:=x.toNat_lt;omega)])
theorem z1Ha (n:Int) (m:Nat) (hm:0<m):(((n% (m:Int)).toNat:Nat):Int)=n% (m:Int):=Int.toNat_of_nonneg (Int.emod_nonneg _ (by omega))
theorem z8Ma (n:Int):(UInt8.ofInt n).toNat=(n% 256).toNat:=by
 unfold UInt8.ofInt
 rw[UInt8.toNat_ofNat',Nat.mod_eq_of_lt (by omega)]
 rfl
theorem z18b (n:Int):(UInt32.ofInt n).toNat=(n% 4294967296).toNat:=by
 unfold UInt32.ofInt
 rw[UInt32.toNat_ofNat',Nat.mod_eq_of_lt (by omega)]
 rfl
theorem z1Ja (n:Int):(UInt64.ofInt n).toNat=(n% 18446744073709551616).toNat:=by
 unfold UInt64.ofInt
 rw[UInt64.toNat_ofNat',Nat.mod_eq_of_lt (by omega)]
 rfl
@[simp] theorem z7sd (n:Int):cvV .u8 (i64 n)=u8 (UInt8.ofInt n):=z4Da (by
 show IntKind.u8.wrap n=_
 rw[show(UInt8.ofInt n).toNat=(n% 256).toNat from z8Ma n]
 exact(z1Ha n 256 (by decide)).symm)
@[simp] theorem z0ld (n:Int):cvV .u64 (i64 n)=u64 (UInt64.ofInt n):=z7G (by
 show IntKind.u64.wrap n=_
 rw[show(UInt64.ofInt n).toNat=(n% 18446744073709551616).toNat from z1Ja n]
 exact(z1Ha n 18446744073709551616 (by decide)).symm)
@[simp] theorem z7nd (n:Int):cvV .u32 (i64 n)=u32 (UInt32.ofInt n):=z01 (by
 show IntKind.u32.wrap n=_
 rw[show(UInt32.ofInt n).toNat=(n% 4294967296).toNat from z18b n]
 exact(z1Ha n 4294967296 (by decide)).symm)
@[simp] theorem z7od (x:UInt8):cvV .i64 (u8 x)=i64 x.toNat:=by
 show z2a.lit (.int .i64 (W x.toNat))=_
 rw[z9a (by omega) (by have:=x.toNat_lt;omega)]
 rfl
@[simp] theorem z4hd (x:UInt32):cvV .i64 (u32 x)=i64 x.toNat:=by
 show z2a.lit (.int .i64 (W x.toNat))=_
 rw[z9a (by omega) (by have:=x.toNat_lt;omega)]
 rfl
@[simp] theorem z0hd (x:UInt64):cvV .i64 (u64 x)=i64 (W x.toNat):=rfl
@[simp] theorem z2fd (x:Int):cvV .i64 (i64 x)=i64 (W x):=rfl
end Go.Abs
end

section
namespace Go.Abs

def z9c (n:Nat):List UInt8:=List.replicate n 0
def z6i (n:Nat):List UInt32:=List.replicate n 0
@[simp] theorem z0Gc (n:Nat):(z9c n).length=n:=by simp[z9c]
@[simp] theorem z3ic (n:Nat):(z6i n).length=n:=by simp[z6i]

/-! ### Lists of bytes and of words as cells -/
@[simp] theorem z4Qb (l:List UInt8):(bys l).length=l.length:=by simp[bys]
@[simp] theorem z2vb (l:List UInt32):(z6o l).length=l.length:=by simp[z6o]
@[simp] theorem z26d:bys []=[]:=rfl
@[simp] theorem z7Rd:z6o []=[]:=rfl
theorem z9s (l m:List UInt8):bys (l++m)=bys l++bys m:=by simp[bys]
theorem z1a (l m:List UInt8):bys l++bys m=bys (l++m):=(z9s l m).symm
theorem z0a (l:List UInt8) (x:UInt8):bys l++[u8 x]=bys (l++[x]):=by simp[bys]
@[simp] theorem z8Mb (l:List UInt8) (n:Nat):(bys l).take n=bys (l.take n):=by simp[bys]
@[simp] theorem z4Fb (l:List UInt8) (n:Nat):(bys l).drop n=bys (l.drop n):=by simp[bys]
@[simp] theorem z8Vd (l:List UInt8):(bys l).tail=bys l.tail:=by cases l<;>rfl
@[simp] theorem z0ge (l:List UInt8):z3ba l=bys l:=rfl
theorem z2ya {P:z2a→Prop} {l:List UInt8} (h:∀x,P (u8 x)):∀c∈bys l,P c:=fun c hc=>by
 simp only[bys,List.mem_map] at hc
 obtain⟨x,_,rfl⟩:=hc
 exact h x
theorem z3Sa {P:z2a→Prop} {l:List UInt32} (h:∀x,P (u32 x)):∀c∈z6o l,P c:=fun c hc=>by
 simp only[z6o,List.mem_map] at hc
 obtain⟨x,_,rfl⟩:=hc
 exact h x
@[simp] theorem z0Zd (l:List UInt8):(∀c∈bys l,z0d c)↔True:=iff_true_intro (z2ya (by simp))
@[simp] theorem z9ge (l:List UInt8):(∀c∈bys l,z5e c=false)↔True:=iff_true_intro (z2ya (by simp))
@[simp] theorem z3Rd (l:List UInt8):(∀c∈bys l,z8d c=true)↔True:=iff_true_intro (z2ya (by simp))
@[simp] theorem z6wc (l:List UInt8):(∀c∈bys l,z8d c=true∧z0d c)↔True:=iff_true_intro (z2ya (by simp))
@[simp] theorem z0Hc (l:List UInt8):(∀c∈bys l,z0d c∧z5e c=false)↔True:=iff_true_intro (z2ya (by simp))
@[simp] theorem z5Sd (l:List UInt8):(∀c∈bys l,z19c .u8 c)↔True:=iff_true_intro (z2ya (by simp))
@[simp] theorem z9Cd (l:List UInt32):(∀c∈z6o l,z0d c)↔True:=iff_true_intro (z3Sa (by simp))
@[simp] theorem z01d (l:List UInt32):(∀c∈z6o l,z5e c=false)↔True:=iff_true_intro (z3Sa (by simp))
@[simp] theorem z3Ad (l:List UInt32):(∀c∈z6o l,z8d c=true)↔True:=iff_true_intro (z3Sa (by simp))
theorem z3Ca {l:List z2a} (h:∀c∈l,z8d c=true):z3f l=true:=(z7g l).2 h
@[simp] theorem z9Nd (l:List UInt8):z3f (bys l)=true:=z3Ca (z2ya (by simp))
@[simp] theorem z1fd (l:List UInt32):z3f (z6o l)=true:=z3Ca (z3Sa (by simp))
attribute [simp] z0Na
@[simp] theorem z95b (l m:List z2a):z6b (l++m)=(z6b l&&z6b m):=by induction l<;>simp_all [z6b,Bool.and_assoc]
@[simp] theorem z5Ec (l:List UInt8):z6b (bys l)=true:=by induction l<;>simp_all [bys,z6b]
@[simp] theorem z7wc (l:List UInt32):z6b (z6o l)=true:=by induction l<;>simp_all [z6o,z6b]
attribute [simp] z1O
@[simp] theorem z9Bd (l:List UInt8):z9f (bys l)=[]:=by induction l<;>simp_all [bys,z9f]
@[simp] theorem z5ld (l:List UInt32):z9f (z6o l)=[]:=by induction l<;>simp_all [z6o,z9f]

@[simp] theorem z9fd (x y:UInt8):z3B .sub (u8 x) (u8 y)=u8 (x-y):=z4Da (by
 show IntKind.u8.wrap ((x.toNat:Int)-y.toNat)=_
 rw[UInt8.toNat_sub]
 have:=x.toNat_lt
 have:=y.toNat_lt
 unfold IntKind.wrap IntKind.bits IntKind.signed
 simp only[Bool.false_and,Bool.false_eq_true,if_false]
 omega)
@[simp] theorem z3id (x y:UInt8):z3B .quo (u8 x) (u8 y)=u8 (x/y):=z4Da (by
 show IntKind.u8.wrap ((x.toNat:Int).tdiv y.toNat)=_
 rw[Int.tdiv_eq_ediv_of_nonneg (by omega),←Int.natCast_ediv,z0Za,UInt8.toNat_div,Nat.mod_eq_of_lt]
 exact Nat.lt_of_le_of_lt (Nat.div_le_self _ _) x.toNat_lt)
@[simp] theorem z2ld (x y:UInt8):z3B .rem (u8 x) (u8 y)=u8 (x% y):=z4Da (by
 show((x.toNat:Int).tmod y.toNat)=_
 rw[UInt8.toNat_mod]
 rfl)
@[simp] theorem z4Ic (x y:UInt8):z0c .quo (u8 x) (u8 y)=(y≠0):=by
 simp only[z0c,u8,true_and,ne_eq,Int.natCast_eq_zero,←UInt8.toNat_inj]
 rfl
@[simp] theorem z2Lc (x y:UInt8):z0c .rem (u8 x) (u8 y)=(y≠0):=by
 simp only[z0c,u8,true_and,ne_eq,Int.natCast_eq_zero,←UInt8.toNat_inj]
 rfl
@[simp] theorem z5hd (x y:UInt8):z3B .lss (u8 x) (u8 y)=bo (decide (x<y)):=by
 show z2a.lit (.bool (decide ((x.toNat:Int)<y.toNat)))= .lit (.bool _)
 congr 2
 simp[UInt8.lt_iff_toNat_lt]
@[simp] theorem z1jd (x y:UInt8):z3B .gtr (u8 x) (u8 y)=bo (decide (y<x)):=by
 show z2a.lit (.bool (decide ((x.toNat:Int)>y.toNat)))= .lit (.bool _)
 congr 2
 simp[UInt8.lt_iff_toNat_lt]
@[simp] theorem z17c (x y:UInt64):z3B .neq (u64 x) (u64 y)=bo (x !=y):=by
 show z2a.lit (.bool ((x.toNat:Int) !=y.toNat))= .lit (.bool _)
 congr 2
 rw[Bool.eq_iff_iff]
 simp only[beq_iff_eq,bne_iff_ne,ne_eq,←UInt64.toNat_inj]
 omega
def z8Hc (x y:Int):Int:=W (BitVec.ofInt 64 x&&&BitVec.ofInt 64 y).toNat
@[simp] theorem z4Wc (x y:Int):z3B .and (i64 x) (i64 y)=i64 (z8Hc x y):=rfl

theorem dT {p:Prop} [Decidable p] (h:p):decide p=true:=decide_eq_true h
theorem dF {p:Prop} [Decidable p] (h:¬p):decide p=false:=decide_eq_false h

/-! ### What values are -/
@[simp] theorem z0Pd:dem .undef= .undef:=rfl
@[simp] theorem z15d (cs:List z2a):dem (.agg cs)= .agg cs:=rfl
@[simp] theorem z4be (cs:List z2a):dem (.tup cs)= .tup cs:=rfl
@[simp] theorem z2Vd (e:Nat) (nl:Option Bool) (n:Nat) (cs rest:List z2a):dem (.otup e nl n cs rest)= .tup (.sl .plain nl n cs::rest):=rfl
@[simp] theorem z6nd (e:Nat) (nl:Option Bool) (n:Nat) (cs rest:List z2a):z8d (.otup e nl n cs rest)=z3f rest:=rfl
@[simp] theorem z0Yd (p:List z2a) (e:Nat) (nl:Option Bool) (n:Nat) (cs rest:List z2a):dem (.oagg p e nl n cs rest)= .agg (p++ .sl .plain nl n cs::rest):=rfl
@[simp] theorem z6hd (p:List z2a) (e:Nat) (nl:Option Bool) (n:Nat) (cs rest:List z2a):z8d (.oagg p e nl n cs rest)=(z3f p&&z3f rest):=rfl
@[simp] theorem z2pd (p:List z2a) (e:Nat) (nl:Option Bool) (n:Nat) (cs rest:List z2a):z5m (.oagg p e nl n cs rest)=z9f p++z9f rest:=rfl
@[simp] theorem z8Pd (e:Nat) (nl:Option Bool) (n:Nat) (cs rest:List z2a):z5m (.otup e nl n cs rest)=z9f rest:=rfl
@[simp] theorem dem_bp (i o:Nat):dem (.bp i o)= .bp i o:=rfl
@[simp] theorem dem_bv (i e o n c:Nat):dem (.bv i e o n c)= .bv i e o n c:=rfl
@[simp] theorem dem_ep (cs:List z2a):dem (.ep cs)= .ep cs:=rfl
@[simp] theorem dem_fn (f:Nat) (x y:List z2a):dem (.fn f x y)= .fn f x y:=rfl
@[simp] theorem z7ce (v:Value):dem (.lit v)= .lit v:=rfl
@[simp] theorem z3be (e:Nat) (nl:Option Bool) (n:Nat) (cs:List z2a):dem (.sl (.own e) nl n cs)= .sl .plain nl n cs:=rfl
@[simp] theorem z6Gd (nl:Option Bool) (n:Nat) (cs:List z2a):dem (.sl .plain nl n cs)= .sl .plain nl n cs:=rfl
@[simp] theorem z6Xd (nl:Option Bool) (n:Nat) (cs:List z2a):dem (.sl .clip nl n cs)= .sl .clip nl n cs:=rfl
@[simp] theorem z9md (cs:List z2a):z0d (.agg cs)=False:=rfl
@[simp] theorem z7rd (m:z0ka) (nl:Option Bool) (n:Nat) (cs:List z2a):z0d (.sl m nl n cs)=True:=rfl
@[simp] theorem z3rd (i o:Nat):z0d (.bp i o)=True:=rfl
@[simp] theorem z7Pd (i e o n c:Nat):z0d (.bv i e o n c)=True:=rfl
@[simp] theorem z2Gd (f:Nat) (x y:List z2a):z0d (.fn f x y)=True:=rfl
@[simp] theorem z8td (cs:List z2a):z0d (.ep cs)=True:=rfl
@[simp] theorem z5kd:z0d (.lit (.slice none 0 0))=True:=rfl
@[simp] theorem z0td (cs:List z2a):z8d (.agg cs)=z3f cs:=rfl
@[simp] theorem z5td (cs:List z2a):z8d (.tup cs)=z3f cs:=rfl
@[simp] theorem z9Td (m:z0ka) (nl:Option Bool) (n:Nat) (cs:List z2a):z8d (.sl m nl n cs)=true:=by cases m<;>rfl
@[simp] theorem z8Zd (cs:List z2a):z8d (.ep cs)=true:=rfl
@[simp] theorem z2Wd (i o:Nat):z8d (.bp i o)=false:=rfl
@[simp] theorem z3Sd (i e o n c:Nat):z8d (.bv i e o n c)=false:=rfl
@[simp] theorem z9Sd (f:Nat) (x y:List z2a):z8d (.fn f x y)=(z3f x&&z3f y):=rfl
@[simp] theorem z8Id:z8d (.lit (.slice none 0 0))=true:=rfl
@[simp] theorem z1Vc (cs:List z2a):z5b (.agg cs)=z6b cs:=rfl
@[simp] theorem z61c (cs:List z2a):z5b (.tup cs)=z6b cs:=rfl
@[simp] theorem z4Zc:z5b (.lit (.slice none 0 0))=true:=rfl
@[simp] theorem z6md (m:z0ka) (nl:Option Bool) (n:Nat) (cs:List z2a):z5b (.sl m nl n cs)=false:=by cases m<;>rfl
@[simp] theorem z61d (cs:List z2a):z5m (.agg cs)=z9f cs:=rfl
@[simp] theorem z51d (cs:List z2a):z5m (.tup cs)=z9f cs:=rfl
@[simp] theorem z27d (m:z0ka) (nl:Option Bool) (n:Nat) (cs:List z2a):z5m (.sl m nl n cs)=[]:=by cases m<;>rfl
@[simp] theorem z0ce (i o:Nat):z5m (.bp i o)=[i]:=rfl
@[simp] theorem z0fe (i e o n c:Nat):z5m (.bv i e o n c)=[i]:=rfl
@[simp] theorem z74d (cs:List z2a):z5m (.ep cs)=[]:=rfl
@[simp] theorem z7ae (f:Nat) (x y:List z2a):z5m (.fn f x y)=z9f x++z9f y:=rfl
@[simp] theorem z4ld:z5m .undef=[]:=rfl
@[simp] theorem z8Ud (v:Value):z5m (.lit v)=[]:=rfl
@[simp] theorem z6id (e:Nat) (nl:Option Bool) (n:Nat) (cs:List z2a):z5e (.sl (.own e) nl n cs)=true:=rfl
@[simp] theorem z5Kc (nl:Option Bool) (n:Nat) (cs:List z2a):z5e (.sl .plain nl n cs)=false:=rfl
@[simp] theorem z6Tc (nl:Option Bool) (n:Nat) (cs:List z2a):z5e (.sl .clip nl n cs)=false:=rfl
@[simp] theorem z2xd (i o:Nat):z5e (.bp i o)=false:=rfl
@[simp] theorem z4Bd (i e o n c:Nat):z5e (.bv i e o n c)=false:=rfl
@[simp] theorem z8hd (cs:List z2a):z5q (.agg cs)=cs:=rfl
@[simp] theorem z2Jd (m:z0ka) (nl:Option Bool) (n:Nat) (cs:List z2a):z5q (.sl m nl n cs)=[.sl m nl n cs]:=rfl
@[simp] theorem z4jd:z5q (.lit (.slice none 0 0))=[.lit (.slice none 0 0)]:=rfl
@[simp] theorem z4Ad (i o:Nat):z5q (.bp i o)=[.bp i o]:=rfl
@[simp] theorem z5Ad (f:Nat) (x y:List z2a):z5q (.fn f x y)=[.fn f x y]:=rfl
@[simp] theorem z2ae (m:z0ka) (nl:Option Bool) (n:Nat) (cs:List z2a):z9r (.sl m nl n cs)=n:=rfl
@[simp] theorem z04d (i e o n c:Nat):z9r (.bv i e o n c)=n:=rfl
@[simp] theorem z4Qd:z9r (.lit (.slice none 0 0))=0:=rfl
@[simp] theorem z8pd (bx:List z2a) (m:z0ka) (nl:Option Bool) (n:Nat) (cs:List z2a):z8f bx (.sl m nl n cs)=cs:=rfl
@[simp] theorem z3Cd (bx:List z2a) (i e o n c:Nat):z8f bx (.bv i e o n c)=(bx.drop o).take (n*e):=rfl
@[simp] theorem z1id (bx:List z2a):z8f bx (.lit (.slice none 0 0))=[]:=rfl
@[simp] theorem z1ee (m:z0ka) (nl:Option Bool) (n:Nat) (cs:List z2a):z15c (.sl m nl n cs)=True:=rfl
@[simp] theorem z3ge (i e o n c:Nat):z15c (.bv i e o n c)=True:=rfl
@[simp] theorem z2Xd:z15c (.lit (.slice none 0 0))=True:=rfl
@[simp] theorem okS_sl (esz:Nat) (b:Option Nat) (bx:Option (List z2a)) (m:z0ka) (nl:Option Bool) (n:Nat) (cs:List z2a):okS esz b bx (.sl m nl n cs)=(cs.length=n*esz):=rfl
@[simp] theorem okS_bv (esz:Nat) (b:Option Nat) (bx:Option (List z2a)) (i e o n c:Nat):okS esz b bx (.bv i e o n c)=(b=some i∧e=esz∧(∃cs,bx=some cs∧o+n*e≤cs.length)):=rfl
@[simp] theorem z99d (esz:Nat) (b:Option Nat) (bx:Option (List z2a)):okS esz b bx (.lit (.slice none 0 0))=True:=rfl
@[simp] theorem z2Yd (f:Nat→Option (List z2a)) (b:Option Nat) (n i o:Nat):z3Ua f b n (.bp i o)=(b=some i∧∃cs,f i=some cs∧o+n≤cs.length):=rfl
@[simp] theorem z10d (f:Nat→Option (List z2a)) (b:Option Nat) (n:Nat) (cs:List z2a):z3Ua f b n (.ep cs)=(b=none∧n≤cs.length):=rfl
@[simp] theorem z9Mc (f:Nat→Option (List z2a)) (b:Option Nat) (i o:Nat):z3v f b (.bp i o)=(bxl f b).drop o:=rfl
@[simp] theorem z8Mc (f:Nat→Option (List z2a)) (b:Option Nat) (cs:List z2a):z3v f b (.ep cs)=cs:=rfl
@[simp] theorem z0Rc (v:z2a):z13 none v=[dem v]:=rfl
@[simp] theorem z2Oc (n:Nat) (v:z2a):z13 (some n) v=z5q v:=rfl
@[simp] theorem z1Ud (v:z2a):isK none v=z0d v:=rfl
@[simp] theorem z7Vd (n:Nat) (cs:List z2a):isK (some n) (.agg cs)=(cs.length=n∧(∀c∈cs,z0d c)∧(∀c∈cs,z5e c=false)):=rfl
@[simp] theorem z0Ad (f:Nat) (x y as:List z2a):z1K (.fn f x y) as=x++as++y:=rfl
@[simp] theorem z9rd (f:Nat→List z2a) (x:UInt8):z7A f (u8 x)=u8 x:=rfl
@[simp] theorem z1Rd (f:Nat→List z2a) (x:UInt8):z4T f (u8 x)=u8 x:=rfl
@[simp] theorem z1od (f:Nat→List z2a) (x:UInt32):z4T f (u32 x)=u32 x:=rfl
@[simp] theorem z7ud (f:Nat→List z2a) (x:UInt64):z4T f (u64 x)=u64 x:=rfl
@[simp] theorem z2Id (f:Nat→List z2a) (x:Int):z4T f (i64 x)=i64 x:=rfl
@[simp] theorem z41d (f:Nat→List z2a) (x:Bool):z4T f (bo x)=bo x:=rfl
@[simp] theorem z6Qd (f:Nat→List z2a) (x:List UInt8):z4T f (st x)=st x:=rfl
@[simp] theorem z0Dd (f:Nat→List z2a) (x:List z2a):z4T f (.agg x)= .agg x:=rfl
@[simp] theorem z8od (f:Nat→List z2a):z4T f (.lit (.slice none 0 0))= .sl .plain (some true) 0 []:=rfl
@[simp] theorem z8Dd (f:Nat→List z2a) (e:Nat) (nl:Option Bool) (n:Nat) (cs:List z2a):z4T f (.sl (.own e) nl n cs)= .sl .plain nl n cs:=rfl
@[simp] theorem z9Qc (f:Nat→List z2a) (nl:Option Bool) (n:Nat) (cs:List z2a):z4T f (.sl .plain nl n cs)= .sl .plain nl n cs:=rfl
@[simp] theorem z1hd (f:Nat→List z2a) (nl:Option Bool) (n:Nat) (cs:List z2a):z4T f (.sl .clip nl n cs)= .sl .plain nl n cs:=rfl
@[simp] theorem z8Wd (f:Nat→List z2a) (i o:Nat):z4T f (.bp i o)= .ep ((f i).drop o):=rfl
@[simp] theorem z0Td (f:Nat→List z2a) (i e o n c:Nat):z4T f (.bv i e o n c)= .sl .plain (some false) n (((f i).drop o).take (n*e)):=rfl
@[simp] theorem z7Ud (f:Nat→List z2a) (cs:List z2a):z4T f (.ep cs)= .ep cs:=rfl
@[simp] theorem z6Zd (f:Nat→List z2a) (g:Nat) (x y:List z2a):z4T f (.fn g x y)= .fn g (x.map (z7A f)) (y.map (z7A f)):=rfl
@[simp] theorem z9Zd (bs:List Nat) (f:Nat→Option (List z2a)) (x:UInt8):z9A bs f (u8 x)=True:=by simp[z9A,z1u,u8,z8d]
@[simp] theorem z7Dd (bs:List Nat) (f:Nat→Option (List z2a)) (x:UInt32):z9A bs f (u32 x)=True:=by simp[z9A,z1u,u32,z8d]
@[simp] theorem z8Jd (bs:List Nat) (f:Nat→Option (List z2a)) (x:UInt64):z9A bs f (u64 x)=True:=by simp[z9A,z1u,u64,z8d]
@[simp] theorem z8zd (bs:List Nat) (f:Nat→Option (List z2a)) (x:Int):z9A bs f (i64 x)=True:=by simp[z9A,z1u,i64,z8d]
@[simp] theorem z6Rd (bs:List Nat) (f:Nat→Option (List z2a)) (x:Bool):z9A bs f (bo x)=True:=by simp[z9A,z1u,bo,z8d]
@[simp] theorem z31d (bs:List Nat) (f:Nat→Option (List z2a)) (x:List UInt8):z9A bs f (st x)=True:=by simp[z9A,z1u,st,z8d]
@[simp] theorem z0Nd (bs:List Nat) (f:Nat→Option (List z2a)) (x:List z2a):z9A bs f (.agg x)=(z3f x=true):=rfl
@[simp] theorem z52d (bs:List Nat) (f:Nat→Option (List z2a)) (m:z0ka) (nl:Option Bool) (n:Nat) (cs:List z2a):z9A bs f (.sl m nl n cs)=True:=by simp[z9A,z1u]
@[simp] theorem z9td (bs:List Nat) (f:Nat→Option (List z2a)):z9A bs f (.lit (.slice none 0 0))=True:=by simp[z9A,z1u]
@[simp] theorem z21d (bs:List Nat) (f:Nat→Option (List z2a)) (i o:Nat):z9A bs f (.bp i o)=(i∈bs∧∃cs,f i=some cs∧o≤cs.length):=rfl
@[simp] theorem z20d (bs:List Nat) (f:Nat→Option (List z2a)) (i e o n c:Nat):z9A bs f (.bv i e o n c)=(i∈bs∧∃cs,f i=some cs∧o+n*e≤cs.length):=rfl
@[simp] theorem z4Zd (bs:List Nat) (f:Nat→Option (List z2a)) (cs:List z2a):z9A bs f (.ep cs)=True:=by simp[z9A,z1u]

/-! ### Whether operations may go ahead -/
@[simp] theorem z0Zc (x:UInt32) (n:Int):z0c .shr (u32 x) (i64 n)=(0≤n):=rfl
@[simp] theorem z32c (x:UInt32) (n:Int):z0c .shl (u32 x) (i64 n)=(0≤n):=rfl
@[simp] theorem z2Wc (x:UInt64) (n:Int):z0c .shr (u64 x) (i64 n)=(0≤n):=rfl
@[simp] theorem z5Oc (x:UInt64) (n:Int):z0c .shl (u64 x) (i64 n)=(0≤n):=rfl
@[simp] theorem z8Gc (x:UInt32) (n:UInt64):z0c .shr (u32 x) (u64 n)=True:=by simp[z0c,u32,u64]
@[simp] theorem z7Kc (x:UInt32) (n:UInt64):z0c .shl (u32 x) (u64 n)=True:=by simp[z0c,u32,u64]
@[simp] theorem z3Hc (x:UInt64) (n:UInt64):z0c .shr (u64 x) (u64 n)=True:=by simp[z0c,u64]
@[simp] theorem z0Jc (x:UInt64) (n:UInt64):z0c .shl (u64 x) (u64 n)=True:=by simp[z0c,u64]
@[simp] theorem z1Bd (x y:Int):z0c .quo (i64 x) (i64 y)=(y≠0):=by simp[z0c,i64]
@[simp] theorem z2td (x y:Int):z0c .rem (i64 x) (i64 y)=(y≠0):=by simp[z0c,i64]
@[simp] theorem z6Uc (x y:UInt64):z0c .rem (u64 x) (u64 y)=(y≠0):=by
 simp only[z0c,u64,true_and,ne_eq,Int.natCast_eq_zero,←UInt64.toNat_inj]
 rfl
@[simp] theorem z9Lc (x y:UInt8):z0c .add (u8 x) (u8 y)=True:=by simp[z0c,u8]
@[simp] theorem z5vc (x y:UInt32):z0c .add (u32 x) (u32 y)=True:=by simp[z0c,u32]
@[simp] theorem z4uc (x y:UInt64):z0c .add (u64 x) (u64 y)=True:=by simp[z0c,u64]
@[simp] theorem z9mc (x y:Int):z0c .add (i64 x) (i64 y)=True:=by simp[z0c,i64]
@[simp] theorem z7Hc (x y:UInt8):z0c .sub (u8 x) (u8 y)=True:=by simp[z0c,u8]
@[simp] theorem z9uc (x y:UInt32):z0c .sub (u32 x) (u32 y)=True:=by simp[z0c,u32]
@[simp] theorem z9Ac (x y:UInt64):z0c .sub (u64 x) (u64 y)=True:=by simp[z0c,u64]
@[simp] theorem z1qc (x y:Int):z0c .sub (i64 x) (i64 y)=True:=by simp[z0c,i64]
@[simp] theorem z1Ic (x y:UInt8):z0c .mul (u8 x) (u8 y)=True:=by simp[z0c,u8]
@[simp] theorem z5uc (x y:UInt32):z0c .mul (u32 x) (u32 y)=True:=by simp[z0c,u32]
@[simp] theorem z1Cc (x y:UInt64):z0c .mul (u64 x) (u64 y)=True:=by simp[z0c,u64]
@[simp] theorem z1zc (x y:Int):z0c .mul (i64 x) (i64 y)=True:=by simp[z0c,i64]
@[simp] theorem z3Dc (x y:UInt8):z0c .and (u8 x) (u8 y)=True:=by simp[z0c,u8]
@[simp] theorem z2vc (x y:UInt32):z0c .and (u32 x) (u32 y)=True:=by simp[z0c,u32]
@[simp] theorem z2yc (x y:UInt64):z0c .and (u64 x) (u64 y)=True:=by simp[z0c,u64]
@[simp] theorem z4mc (x y:Int):z0c .and (i64 x) (i64 y)=True:=by simp[z0c,i64]
@[simp] theorem z21c (x y:UInt8):z0c .or (u8 x) (u8 y)=True:=by simp[z0c,u8]
@[simp] theorem z3Ic (x y:UInt32):z0c .or (u32 x) (u32 y)=True:=by simp[z0c,u32]
@[simp] theorem z7Ic (x y:UInt64):z0c .or (u64 x) (u64 y)=True:=by simp[z0c,u64]
@[simp] theorem z0Lc (x y:Int):z0c .or (i64 x) (i64 y)=True:=by simp[z0c,i64]
@[simp] theorem z2Fc (x y:UInt8):z0c .xor (u8 x) (u8 y)=True:=by simp[z0c,u8]
@[simp] theorem z2Bc (x y:UInt32):z0c .xor (u32 x) (u32 y)=True:=by simp[z0c,u32]
@[simp] theorem z5qc (x y:UInt64):z0c .xor (u64 x) (u64 y)=True:=by simp[z0c,u64]
@[simp] theorem z2oc (x y:Int):z0c .xor (i64 x) (i64 y)=True:=by simp[z0c,i64]
@[simp] theorem z8Cc (x y:UInt8):z0c .eql (u8 x) (u8 y)=True:=by simp[z0c,u8]
@[simp] theorem z7rc (x y:UInt32):z0c .eql (u32 x) (u32 y)=True:=by simp[z0c,u32]
@[simp] theorem z0uc (x y:UInt64):z0c .eql (u64 x) (u64 y)=True:=by simp[z0c,u64]
@[simp] theorem z0rc (x y:Int):z0c .eql (i64 x) (i64 y)=True:=by simp[z0c,i64]
@[simp] theorem z9Hc (x y:UInt8):z0c .neq (u8 x) (u8 y)=True:=by simp[z0c,u8]
@[simp] theorem z3yc (x y:UInt32):z0c .neq (u32 x) (u32 y)=True:=by simp[z0c,u32]
@[simp] theorem z8lc (x y:UInt64):z0c .neq (u64 x) (u64 y)=True:=by simp[z0c,u64]
@[simp] theorem z4yc (x y:Int):z0c .neq (i64 x) (i64 y)=True:=by simp[z0c,i64]
@[simp] theorem z0Ec (x y:UInt8):z0c .lss (u8 x) (u8 y)=True:=by simp[z0c,u8]
@[simp] theorem z2lc (x y:UInt32):z0c .lss (u32 x) (u32 y)=True:=by simp[z0c,u32]
@[simp] theorem z0mc (x y:UInt64):z0c .lss (u64 x) (u64 y)=True:=by simp[z0c,u64]
@[simp] theorem z4wc (x y:Int):z0c .lss (i64 x) (i64 y)=True:=by simp[z0c,i64]
@[simp] theorem z9Dc (x y:UInt8):z0c .leq (u8 x) (u8 y)=True:=by simp[z0c,u8]
@[simp] theorem z2pc (x y:UInt32):z0c .leq (u32 x) (u32 y)=True:=by simp[z0c,u32]
@[simp] theorem z8xc (x y:UInt64):z0c .leq (u64 x) (u64 y)=True:=by simp[z0c,u64]
@[simp] theorem z6jc (x y:Int):z0c .leq (i64 x) (i64 y)=True:=by simp[z0c,i64]
@[simp] theorem z2Gc (x y:UInt8):z0c .gtr (u8 x) (u8 y)=True:=by simp[z0c,u8]
@[simp] theorem z0tc (x y:UInt32):z0c .gtr (u32 x) (u32 y)=True:=by simp[z0c,u32]
@[simp] theorem z0lc (x y:UInt64):z0c .gtr (u64 x) (u64 y)=True:=by simp[z0c,u64]
@[simp] theorem z0Cc (x y:Int):z0c .gtr (i64 x) (i64 y)=True:=by simp[z0c,i64]
@[simp] theorem z0Kc (x y:UInt8):z0c .geq (u8 x) (u8 y)=True:=by simp[z0c,u8]
@[simp] theorem z9wc (x y:UInt32):z0c .geq (u32 x) (u32 y)=True:=by simp[z0c,u32]
@[simp] theorem z4vc (x y:UInt64):z0c .geq (u64 x) (u64 y)=True:=by simp[z0c,u64]
@[simp] theorem z5xc (x y:Int):z0c .geq (i64 x) (i64 y)=True:=by simp[z0c,i64]
@[simp] theorem z8Dc (x y:List UInt8):z0c .eql (st x) (st y)=True:=rfl
@[simp] theorem z3Kc (x y:List UInt8):z0c .neq (st x) (st y)=True:=rfl
@[simp] theorem z5Jc (x y:List UInt8):z0c .lss (st x) (st y)=True:=rfl
@[simp] theorem z1Ec (x y:List UInt8):z0c .leq (st x) (st y)=True:=rfl
@[simp] theorem z3Cc (x y:List UInt8):z0c .gtr (st x) (st y)=True:=rfl
@[simp] theorem z7Ec (x y:List UInt8):z0c .geq (st x) (st y)=True:=rfl
@[simp] theorem z6Hc (x y:List UInt8):z0c .add (st x) (st y)=(((x.length+y.length:Nat):Int)≤9223372036854775807):=rfl
@[simp] theorem z0nd (x y:List UInt8):z3B .add (st x) (st y)=st (x++y):=by
 show z2a.lit (.string (ByteArray.mk x.toArray++ByteArray.mk y.toArray))=_
 rw[st]
 congr 2
@[simp] theorem z5nd (x y:List UInt8):z3B .eql (st x) (st y)=bo (decide (x=y)):=by
 show z2a.lit (.bool ((ByteArray.mk x.toArray).toList==(ByteArray.mk y.toArray).toList))=_
 rw[bo,ByteArray.toList_eq,ByteArray.toList_eq]
 congr 2
 rw[Bool.eq_iff_iff]
 simp
@[simp] theorem z0gd (x y:List UInt8):z3B .neq (st x) (st y)=bo (!decide (x=y)):=by
 show z2a.lit (.bool (!((ByteArray.mk x.toArray).toList==(ByteArray.mk y.toArray).toList)))=_
 rw[bo,ByteArray.toList_eq,ByteArray.toList_eq]
 congr 2
 rw[Bool.eq_iff_iff]
 simp
@[simp] theorem z3Vd (x:Int):z21b .neg (i64 x)=True:=rfl
@[simp] theorem z5Wd (x:Bool):z21b .not (bo x)=True:=rfl
@[simp] theorem z6kd (x:UInt32):z21b .xor (u32 x)=True:=rfl
@[simp] theorem z1ld (x:UInt64):z21b .xor (u64 x)=True:=rfl

attribute [simp] lk ASt.get ASt.getB z7y z4va z1Na arg bxc bxl bnd z0L z2b.W AOp.wrS z2B z5A z9f z2za z66 z3f z6b
attribute [simp] z24a z3Fa z4Nb z7U z5nc
def z0kd (wr:List Nat):Nat→List z2a→List (Nat×z2a)
 |_,[]=>[]
 |i,d::ds=>if wr.contains i then z0kd wr (i+1) ds else(i,d)::z0kd wr (i+1) ds
def z1gd (wr:List Nat):Nat→List z2a→List (Nat×z2a)
 |_,[]=>[]
 |i,d::ds=>if wr.contains i then(i,dem d)::z1gd wr (i+1) ds else z1gd wr (i+1) ds
theorem z71b (wr:List Nat):∀(ds:List z2a) (i:Nat),z0kd wr i ds=(z9u i ds).filter fun p=> !wr.contains p.1
 |[],i=>rfl
 |d::ds,i=>by
  rw[z0kd,z9u,List.filter_cons,z71b wr ds]
  show(if wr.contains i=true then _ else _)=if(!wr.contains i)=true then _ else _
  cases wr.contains i<;>rfl
theorem z63b (wr:List Nat):∀(ds:List z2a) (i:Nat),z1gd wr i ds=((z9u i ds).filter fun p=>wr.contains p.1).map fun p=>(p.1,dem p.2)
 |[],i=>rfl
 |d::ds,i=>by
  rw[z1gd,z9u,List.filter_cons,z63b wr ds]
  show(if wr.contains i=true then _ else _)=List.map _ (if wr.contains i=true then _ else _)
  cases wr.contains i<;>rfl
@[simp] theorem z3Fd (wr:List Nat) (ds:List z2a):z3b wr ds=⟨z0kd wr 0 ds,z1gd wr 0 ds,[]⟩:=by rw[z71b,z63b];rfl
attribute [simp] z0kd z1gd

@[simp] theorem z2Qd (E:Env) (Q:z7h→ASt→Prop) (s:ASt):awp E .skip Q s=Q .normal s:=rfl
def z8jd (Q:z7h→ASt→Prop):List z9t→ASt→Prop
 |[],st=>Q .normal st
 |g::gs,st=>z7y g st∧z8jd Q gs (z1b g st)
def z6xb (E:Env) (keep:List Nat) (gs:List z9t) (Q:z7h→ASt→Prop):List z2b→ASt→Prop
 |[],st=>z8jd Q gs (z32 keep st)
 |o::os,st=>okA E o st∧z6xb E keep gs Q os (z8e E o st)
theorem z1ac (Q:z7h→ASt→Prop):∀(gs:List z9t) (st:ASt),z8jd Q gs st=(z3Wb gs st∧Q .normal (z9Ha gs st))
 |[],st=>by simp[z8jd,z3Wb,z9Ha]
 |g::gs,st=>by simp only[z8jd,z3Wb,z9Ha,z1ac Q gs];exact propext and_assoc.symm
theorem z39a (E:Env) (keep:List Nat) (gs:List z9t) (Q:z7h→ASt→Prop):∀(xs:List z2b) (st:ASt),z6xb E keep gs Q xs st=(z6V E xs st∧z3Wb gs (z32 keep (z1ga E xs st))∧Q .normal (z9Ha gs (z32 keep (z1ga E xs st))))
 |[],st=>by simp only[z6xb,z6V,z1ga,true_and];exact z1ac Q gs _
 |o::os,st=>by simp only[z6xb,z6V,z1ga,z39a E keep gs Q os];exact propext and_assoc.symm
@[simp] theorem z8z (E:Env) (keep:List Nat) (gs:List z9t) (xs:List z2b) (Q:z7h→ASt→Prop) (s:ASt):
  awp E (.region keep gs xs) Q s=z6xb E keep gs Q xs s:=(z39a E keep gs Q xs s).symm
def z2Md (o e:List (Nat×z2a)) (b:List (Nat×Option (List z2a))) (d:Nat) (x:Eff):ASt:=⟨o,(d,x.val)::(x.sl++e),x.bx++b⟩
def put0 (o e:List (Nat×z2a)) (b:List (Nat×Option (List z2a))) (x:Eff):ASt:=⟨o,x.sl++e,x.bx++b⟩
def z6Ib (o e:List (Nat×z2a)) (b:List (Nat×Option (List z2a))) (d:Nat) (t:Bool) (x:Eff):ASt:=if t then z2Md o e b d x else⟨o,(d,z4ia)::e,b⟩
@[simp] theorem z96d (o e:List (Nat×z2a)) (b:List (Nat×Option (List z2a))) (d:Nat) (v:z2a) (sl:List (Nat×z2a)) (bx:List (Nat×Option (List z2a))):z2Md o e b d ⟨v,sl,bx⟩=⟨o,(d,v)::(sl++e),bx++b⟩:=rfl
@[simp] theorem z59d (o e:List (Nat×z2a)) (b:List (Nat×Option (List z2a))) (v:z2a) (sl:List (Nat×z2a)) (bx:List (Nat×Option (List z2a))):put0 o e b ⟨v,sl,bx⟩=⟨o,sl++e,bx++b⟩:=rfl
@[simp] theorem z5Zd (o e:List (Nat×z2a)) (b:List (Nat×Option (List z2a))) (d:Nat) (x:Eff):z6Ib o e b d true x=z2Md o e b d x:=rfl
@[simp] theorem z2Ud (o e:List (Nat×z2a)) (b:List (Nat×Option (List z2a))) (d:Nat) (x:Eff):z6Ib o e b d false x=⟨o,(d,z4ia)::e,b⟩:=rfl
@[simp] theorem z2ec (E:Env) (d:Nat) (op:AOp) (o e:List (Nat×z2a)) (b:List (Nat×Option (List z2a))):
  z8e E ⟨some d,none,op⟩ ⟨o,e,b⟩=z2Md o e b d (eff E (ASt.get ⟨o,e,b⟩) (ASt.getB ⟨o,e,b⟩) op):=rfl
@[simp] theorem z60b (E:Env) (op:AOp) (o e:List (Nat×z2a)) (b:List (Nat×Option (List z2a))):
  z8e E ⟨none,none,op⟩ ⟨o,e,b⟩=put0 o e b (eff E (ASt.get ⟨o,e,b⟩) (ASt.getB ⟨o,e,b⟩) op):=rfl
@[simp] theorem z3md (E:Env) (d s:Nat) (w:Bool) (op:AOp) (o e:List (Nat×z2a)) (b:List (Nat×Option (List z2a))):
  z8e E ⟨some d,some (s,w),op⟩ ⟨o,e,b⟩=z6Ib o e b d (z6gb (ASt.get ⟨o,e,b⟩ s) w) (eff E (ASt.get ⟨o,e,b⟩) (ASt.getB ⟨o,e,b⟩) op):=by
 simp only[z8e,z6Ib,z2Md]
 generalize z6gb (ASt.get ⟨o,e,b⟩ s) w=t
 cases t<;>simp
@[simp] theorem z5Tc (x w:Bool):z6gb (bo x) w=(x==w):=rfl
@[simp] theorem z3pd (w:Bool):z6gb z4ia w=false:=rfl
@[simp] theorem okG_bo (x:Bool):okG (bo x)=True:=eq_true (.inl trivial)
@[simp] theorem z12d:okG z4ia=True:=eq_true (.inr rfl)
@[simp] theorem z6Ud:dem z4ia=z4ia:=rfl
@[simp] theorem z3td:z5m z4ia=[]:=rfl
attribute [simp] z8jd z6xb
def z94a (f:Nat→z2a):List Nat→List (Nat×z2a)
 |[]=>[]
 |s::l=>(s,f s)::z94a f l
def z85b (f:Nat→Option (List z2a)):List Nat→List (Nat×Option (List z2a))
 |[]=>[]
 |s::l=>(s,f s)::z85b f l
def z3zb (ids:List Nat):List (Nat×Option (List z2a))→List (Nat×Option (List z2a))
 |[]=>[]
 |p::l=>if ids.contains p.1 then z3zb ids l else p::z3zb ids l
theorem z4hb (f:Nat→z2a):∀l,z94a f l=l.map fun s=>(s,f s)
 |[]=>rfl
 |s::l=>by rw[z94a,z4hb f l];rfl
theorem z1Lb (f:Nat→Option (List z2a)):∀l,z85b f l=l.map fun s=>(s,f s)
 |[]=>rfl
 |s::l=>by rw[z85b,z1Lb f l];rfl
theorem z7hb (ids:List Nat):∀l,z3zb ids l=l.filter fun p=> !ids.contains p.1
 |[]=>rfl
 |p::l=>by
  rw[z3zb,z7hb ids l,List.filter_cons]
  cases ids.contains p.1<;>rfl
attribute [simp] z94a z85b z3zb
@[simp] theorem z5tc (keep:List Nat) (o e:List (Nat×z2a)) (b:List (Nat×Option (List z2a))):z32 keep ⟨o,e,b⟩=⟨o,z94a (ASt.get ⟨o,e,b⟩) keep,b⟩:=by rw[z4hb];rfl
@[simp] theorem z09d (ids:List Nat) (o e:List (Nat×z2a)) (b:List (Nat×Option (List z2a))):z1b (.norm ids) ⟨o,e,b⟩=⟨o,e,z85b (ASt.getB ⟨o,e,b⟩) ids⟩:=by rw[z1Lb];rfl
@[simp] theorem z93d (ids:List Nat) (o e:List (Nat×z2a)) (b:List (Nat×Option (List z2a))):z1b (.drop ids) ⟨o,e,b⟩=⟨o,e,z3zb ids b⟩:=by rw[z7hb];rfl
def z0Ub (s:Nat):List (Nat×z2a)→List (Nat×z2a)
 |[]=>[]
 |(k,v)::l=>if k=s then z0Ub s l else(k,v)::z0Ub s l
theorem z7Mb (s:Nat):∀l,z0Ub s l=l.filter fun p=>decide (p.1≠s)
 |[]=>rfl
 |(k,v)::l=>by
  rw[z0Ub,z7Mb s l,List.filter_cons]
  by_cases h:k=s<;>simp[h]
attribute [simp] z0Ub
@[simp] theorem z9Ud (s:Nat) (o e:List (Nat×z2a)) (b:List (Nat×Option (List z2a))):z1b (.unorg s) ⟨o,e,b⟩=⟨z0Ub s o,(s,ASt.get ⟨o,e,b⟩ s)::e,b⟩:=by rw[z7Mb];rfl
def z47c (b i:Nat) (x:Option (List z2a)) (box:List (Nat×Option (List z2a))):List (Nat×Option (List z2a)):=match x with|some bs=>(b,some (bs.set i .undef))::box|none=>box
@[simp] theorem z2nd (b i:Nat) (bs:List z2a) (box:List (Nat×Option (List z2a))):z47c b i (some bs) box=(b,some (bs.set i .undef))::box:=rfl
@[simp] theorem z3Wd (b i:Nat) (o e:List (Nat×z2a)) (box:List (Nat×Option (List z2a))):z1b (.hideB b i) ⟨o,e,box⟩=⟨o,e,z47c b i (ASt.getB ⟨o,e,box⟩ b) box⟩:=by
 simp only[z1b,z47c]
 split<;>simp_all
def reL (b i:Nat) (r:Option Nat) (x:Option (List z2a)) (box:List (Nat×Option (List z2a))):List (Nat×Option (List z2a)):=match x with|some bs=>(b,some (bs.set i (z9ja r (bs.getD i .undef))))::box|none=>box
@[simp] theorem z0Xd (b i:Nat) (r:Option Nat) (bs:List z2a) (box:List (Nat×Option (List z2a))):reL b i r (some bs) box=(b,some (bs.set i (z9ja r (bs.getD i .undef))))::box:=rfl
@[simp] theorem reB_mk (b i:Nat) (r:Option Nat) (o e:List (Nat×z2a)) (box:List (Nat×Option (List z2a))):z1b (.reB b i r) ⟨o,e,box⟩=⟨o,e,reL b i r (ASt.getB ⟨o,e,box⟩ b) box⟩:=by
 simp only[z1b,reL]
 split<;>simp_all
@[simp] theorem z6Nc (c:z2a):z9ja none c=dem c:=rfl
@[simp] theorem z3kd (e:Nat):z9ja (some e) (.sl .plain (some true) 0 [])= .sl (.own e) none 0 []:=rfl
@[simp] theorem z77d (keep:List Nat) (o e:List (Nat×z2a)) (b:List (Nat×Option (List z2a))):z1b (.keep keep) ⟨o,e,b⟩=⟨o,z94a (ASt.get ⟨o,e,b⟩) keep,b⟩:=z5tc keep o e b
@[simp] theorem z9Dd (ids:List Nat) (o e:List (Nat×z2a)) (b:List (Nat×Option (List z2a))):z1b (.freeze ids) ⟨o,e,b⟩=
  ⟨o,e.map fun p=>(p.1,z2za ids (fun id=>(ASt.getB ⟨o,e,b⟩ id).getD []) p.2),(z3zb ids b).map fun p=>(p.1,p.2.map (z66 ids fun id=>(ASt.getB ⟨o,e,b⟩ id).getD []))⟩:=by rw[z7hb];rfl
@[simp] theorem z6n (E:Env) (a b:z3a) (Q:z7h→ASt→Prop) (s:ASt):awp E (.seq a b) Q s=awp E a (z4va (awp E b Q) Q) s:=rfl
theorem z6d (E:Env) (c:Arg) (a b:z3a) (Q:z7h→ASt→Prop) (s:ASt):
  awp E (.cond c a b) Q s=(isB (arg E s.get c)∧(asB (arg E s.get c)=true→awp E a Q s)∧(asB (arg E s.get c)=false→awp E b Q s)):=rfl
@[simp] theorem z1Cd (E:Env) (id:Nat) (b:z3a) (Q:z7h→ASt→Prop) (s:ASt):awp E (.block id b) Q s=awp E b (z1Na id Q) s:=rfl
@[simp] theorem z5Pd (E:Env) (b:z3a) (Q:z7h→ASt→Prop) (s:ASt):awp E (.scope b) Q s=awp E b Q s:=rfl
@[simp] theorem z5Qd (E:Env) (id:Nat) (Q:z7h→ASt→Prop) (s:ASt):awp E (.exit id) Q s=Q (.exit id) s:=rfl
@[simp] theorem z45d (E:Env) (Q:z7h→ASt→Prop) (s:ASt):awp E .ret Q s=Q .ret s:=rfl
@[simp] theorem z1Ed (E:Env) (g:z9t) (c:z3a) (Q:z7h→ASt→Prop) (s:ASt):awp E (.ghost g c) Q s=(z7y g s∧awp E c Q (z1b g s)):=rfl

attribute [simp] okA eff okp okp.okApp z0Oa z33a

/-! ### Reading arguments -/
def nth (ds:List z2a) (i:Nat):z2a:=ds.getD i .undef
def gU8 (v:z2a):UInt8:=UInt8.ofInt (asI v)
def z2Ic (v:z2a):UInt32:=UInt32.ofInt (asI v)
def z5ae (v:z2a):UInt64:=UInt64.ofInt (asI v)
def gS (v:z2a):List UInt8:=(asS v).data.toList
def gCs (v:z2a):List z2a:=match v with| .agg cs=>cs| .sl _ _ _ cs=>cs| .ep cs=>cs| .tup cs=>cs|_=>[]
def gBs (l:List z2a):List UInt8:=l.map gU8
def gWs (l:List z2a):List UInt32:=l.map z2Ic
@[simp] theorem nth_0 (d:z2a) (ds:List z2a):nth (d::ds) 0=d:=rfl
@[simp] theorem nth_s (d:z2a) (ds:List z2a) (i:Nat):nth (d::ds) (i+1)=nth ds i:=rfl
@[simp] theorem z1Fc (x:UInt8):gU8 (u8 x)=x:=by
 apply UInt8.toNat_inj.1
 rw[gU8,z8Ma,z82b]
 have:=x.toNat_lt
 omega
@[simp] theorem z2Gb (x:UInt32):z2Ic (u32 x)=x:=by
 apply UInt32.toNat_inj.1
 rw[z2Ic,z18b,z3Zc]
 have:=x.toNat_lt
 omega
@[simp] theorem z1Jb (x:UInt64):z5ae (u64 x)=x:=by
 apply UInt64.toNat_inj.1
 rw[z5ae,z1Ja,z68c]
 have:=x.toNat_lt
 omega
@[simp] theorem z1pd (l:List UInt8):gS (st l)=l:=rfl
@[simp] theorem z33d (l:List z2a):gCs (.agg l)=l:=rfl
@[simp] theorem z8be (l:List z2a):gCs (.tup l)=l:=rfl
@[simp] theorem gCs_ep (l:List z2a):gCs (.ep l)=l:=rfl
@[simp] theorem gCs_sl (m:z0ka) (nl:Option Bool) (n:Nat) (l:List z2a):gCs (.sl m nl n l)=l:=rfl
@[simp] theorem z5fe:gCs (.lit (.slice none 0 0))=[]:=rfl
@[simp] theorem z32b (l:List UInt8):gBs (bys l)=l:=by simp[gBs,bys,Function.comp_def]
@[simp] theorem z5Gb (l:List UInt32):gWs (z6o l)=l:=by simp[gWs,z6o,Function.comp_def]
@[simp] theorem z78d:gBs []=[]:=rfl

@[simp] theorem u8_inj (x y:UInt8):(u8 x=u8 y)=(x=y):=propext ⟨fun h=>by rw[←z1Fc x,h,z1Fc],fun h=>by rw[h]⟩
@[simp] theorem z6be (x y:UInt32):(u32 x=u32 y)=(x=y):=propext ⟨fun h=>by rw[←z2Gb x,h,z2Gb],fun h=>by rw[h]⟩
@[simp] theorem z7be (x y:UInt64):(u64 x=u64 y)=(x=y):=propext ⟨fun h=>by rw[←z1Jb x,h,z1Jb],fun h=>by rw[h]⟩
@[simp] theorem z58d (x y:Int):(i64 x=i64 y)=(x=y):=propext ⟨fun h=>by rw[←z2Xb x,h,z2Xb],fun h=>by rw[h]⟩
@[simp] theorem bo_inj (x y:Bool):(bo x=bo y)=(x=y):=propext ⟨fun h=>by rw[←z3Lc x,h,z3Lc],fun h=>by rw[h]⟩
@[simp] theorem st_inj (x y:List UInt8):(st x=st y)=(x=y):=propext ⟨fun h=>by rw[←z1pd x,h,z1pd],fun h=>by rw[h]⟩
@[simp] theorem z54d (x y:List UInt8):(bys x=bys y)=(x=y):=propext ⟨fun h=>by rw[←z32b x,h,z32b],fun h=>by rw[h]⟩
@[simp] theorem z1Vd (x y:List UInt32):(z6o x=z6o y)=(x=y):=propext ⟨fun h=>by rw[←z5Gb x,h,z5Gb],fun h=>by rw[h]⟩
theorem z0Va (x:UInt32) (l:List UInt32):z6o (x::l)=u32 x::z6o l:=rfl

/-! ### Loops -/
theorem z4a {E:Env} {c:z3a} {Q:z7h→ASt→Prop} {st:ASt} (h:∀Q',Q'=Q→awp E c Q' st):awp E c Q st:=h Q rfl
theorem z4e {E:Env} {b:z3a} {Q:z7h→ASt→Prop} {st:ASt} {α:Type} (S:α→ASt) (μ:α→Nat) (inv:α→Prop) (a0:α) (h0:st=S a0) (hi:inv a0)
  (hr:∀a,inv a→awp E b (z4va (fun st'=>∃a',μ a'<μ a∧inv a'∧st'=S a') Q) (S a)):awp E (.loop b) Q st:=by
 refine⟨fun m st=>∃a,μ a=m∧inv a∧st=S a,⟨μ a0,a0,rfl,hi,h0⟩,?_⟩
 rintro m _ ⟨a,rfl,hia,rfl⟩
 have e:(z4va (fun st'=>∃a',μ a'<μ a∧inv a'∧st'=S a') Q)=(z4va (fun st'=>∃m',m'<μ a∧∃a',μ a'=m'∧inv a'∧st'=S a') Q):=by
  funext e st'
  cases e<;>simp only[z4va]
  apply propext
  constructor
  ·rintro⟨a',h1,h2,h3⟩;exact⟨_,h1,a',rfl,h2,h3⟩
  ·rintro⟨_,h1,a',rfl,h2,h3⟩;exact⟨a',h1,h2,h3⟩
 rw[←e]
 exact hr a hia

/-! ### Splices -/
@[simp] theorem z3fc (a x:z2a) (l:List z2a):splice (a::l) 0 [x]=x::l:=by simp[splice]
@[simp] theorem z0bd (a:z2a) (l:List z2a) (n:Nat) (xs:List z2a):splice (a::l) (n+1) xs=a::splice l n xs:=by
 simp only[splice,List.take_succ_cons,List.cons_append,List.cons.injEq,true_and]
 congr 1
 rw[show n+1+xs.length=(n+xs.length)+1 by omega,List.drop_succ_cons]
theorem z8a {l xs:List z2a} (h:xs.length=l.length):splice l 0 xs=xs:=by simp[splice,h]
theorem z8ya {a b xs:List z2a} {n:Nat} (h:n+xs.length≤a.length):splice (a++b) n xs=splice a n xs++b:=by
 simp only[splice,List.append_assoc]
 rw[List.take_append_of_le_length (by omega),List.drop_append_of_le_length h]
theorem z5oa {a b xs:List z2a} {n:Nat} (h:a.length≤n):splice (a++b) n xs=a++splice b (n-a.length) xs:=by
 simp only[splice]
 rw[List.take_append,List.take_of_length_le h,List.drop_append,List.drop_of_length_le (by omega)]
 simp only[List.append_assoc,List.nil_append]
 rw[show n+xs.length-a.length=n-a.length+xs.length by omega]
theorem z4Ma {l:List UInt8} {n:Nat} {x:UInt8} (h:n<l.length):splice (bys l) n [u8 x]=bys (l.set n x):=by
 simp only[splice,bys,←List.map_take,←List.map_drop,List.length_singleton]
 rw[List.set_eq_take_append_cons_drop,if_pos h]
 simp
theorem z1C {l:List UInt32} {n:Nat} {x:UInt32} (h:n<l.length):splice (z6o l) n [u32 x]=z6o (l.set n x):=by
 simp only[splice,z6o,←List.map_take,←List.map_drop,List.length_singleton]
 rw[List.set_eq_take_append_cons_drop,if_pos h]
 simp
def at8 (l:List UInt8) (i:Nat):UInt8:=l.getD i 0
def z6p (l:List UInt32) (i:Nat):UInt32:=l.getD i 0
theorem z4nc {l:List z2a} {n:Nat}:hdA (l.drop n)=l.getD n .undef:=by
 rw[hdA,List.headD_eq_head?_getD,List.head?_drop]
 rfl
theorem z0qc {l:List UInt8} {n:Nat} (h:n<l.length):(bys l).getD n .undef=u8 (at8 l n):=by
 simp[at8,bys,List.getD,List.getElem?_eq_getElem h]
theorem z9Sa {l:List UInt32} {n:Nat} (h:n<l.length):(z6o l).getD n .undef=u32 (z6p l n):=by
 simp[z6p,z6o,List.getD,List.getElem?_eq_getElem h]
theorem z95a {l:List UInt8} {n:Nat} (h:n<l.length):hdA (bys (l.drop n))=u8 (at8 l n):=by rw[←z4Fb,z4nc,z0qc h]
@[simp] theorem z3xd (l:List UInt32) (n:Nat):(z6o l).take n=z6o (l.take n):=by simp[z6o]
@[simp] theorem z8Va (l:List UInt32) (n:Nat):(z6o l).drop n=z6o (l.drop n):=by simp[z6o]
theorem z51 {l:List UInt32} {n:Nat} (h:n<l.length):hdA (z6o (l.drop n))=u32 (z6p l n):=by rw[←z8Va,z4nc,z9Sa h]
theorem z7Bc {l:List UInt32} (h:0<l.length):hdA (z6o l)=u32 (z6p l 0):=by rw[←z51 h,List.drop_zero]
@[simp] theorem z4Mc (l:List UInt32) (i:Nat) (h:i<(z6o l).length):(z6o l)[i]=u32 (z6p l i):=by
 have h':i<l.length:=by simpa using h
 simp[z6p,z6o,List.getElem?_eq_getElem h']
@[simp] theorem z48c (l:List UInt8) (i:Nat) (h:i<(bys l).length):(bys l)[i]=u8 (at8 l i):=by
 have h':i<l.length:=by simpa using h
 simp[at8,bys,List.getElem?_eq_getElem h']
@[simp] theorem z0pc (x:UInt32) (l:List UInt32):hdA (z6o (x::l))=u32 x:=rfl
@[simp] theorem z9Gc (x:UInt8) (l:List UInt8):hdA (bys (x::l))=u8 x:=rfl
@[simp] theorem z9Yd (a:z2a) (l:List z2a):hdA (a::l)=a:=rfl
theorem z2Mb {a b:List UInt32} {i:Nat} (h:i<a.length):z6p (a++b) i=z6p a i:=by simp[z6p,List.getD,List.getElem?_append_left h]
theorem z3bc {a b:List UInt8} {i:Nat} (h:a.length≤i):at8 (a++b) i=at8 b (i-a.length):=by simp[at8,List.getD,List.getElem?_append_right h]
theorem z0Vb {a b:List UInt32} {i:Nat} (h:a.length≤i):z6p (a++b) i=z6p b (i-a.length):=by simp[z6p,List.getD,List.getElem?_append_right h]
theorem z4Ac {a:List UInt8} {i n:Nat} (h:i<n):at8 (a.take n) i=at8 a i:=by simp[at8,List.getD,List.getElem?_take,h]
@[simp] theorem z5Ud {a:List UInt8} {i n:Nat}:at8 (a.drop n) i=at8 a (n+i):=by simp[at8,List.getD]
@[simp] theorem z8Gd {a:List UInt32} {i n:Nat}:z6p (a.drop n) i=z6p a (n+i):=by simp[z6p,List.getD]
@[simp] theorem z8Kd (x:UInt32) (l:List UInt32):z6p (x::l) 0=x:=rfl
@[simp] theorem z8Ed (x:UInt32) (l:List UInt32) (n:Nat):z6p (x::l) (n+1)=z6p l n:=rfl
@[simp] theorem z1Yd (x:UInt8) (l:List UInt8):at8 (x::l) 0=x:=rfl
@[simp] theorem z02d (x:UInt8) (l:List UInt8) (n:Nat):at8 (x::l) (n+1)=at8 l n:=rfl

def ks8 (n:Nat):List LK:=List.replicate n (.int .u8)
@[simp] theorem z1Uc (n:Nat) (l:List UInt8):z2y (ks8 n) (bys l)=(l.length=n):=by
 induction n generalizing l with
 |zero=>cases l<;>simp[ks8,z2y,bys]
 |succ n ih=>
  cases l with
  |nil=>simp[ks8,List.replicate_succ,z2y,bys]
  |cons x l=>
   have:=ih l
   simp only[ks8,bys] at this
   simp[ks8,List.replicate_succ,z2y,bys,z6Td,u8,this]
theorem z6ia {n:Nat} {a b:List UInt8} (ha:a.length=n) (hb:b.length=n):z2J (ks8 n) (bys a) (bys b)=decide (a=b):=by
 induction n generalizing a b with
 |zero=>
  have e1:=List.length_eq_zero_iff.1 ha
  have e2:=List.length_eq_zero_iff.1 hb
  subst e1;subst e2
  rfl
 |succ n ih=>
  match a,b,ha,hb with
  |x::a,y::b,ha,hb=>
   have:=ih (a:=a) (b:=b) (by simpa using ha) (by simpa using hb)
   simp only[ks8,bys] at this
   simp only[ks8,List.replicate_succ,bys,List.map_cons,z2J,z00d,z82b,this]
   rw[Bool.eq_iff_iff]
   simp only[Bool.and_eq_true,beq_iff_eq,decide_eq_true_eq,List.cons.injEq,←UInt8.toNat_inj,Int.natCast_inj]
@[simp] theorem z16d (l:List UInt8):(ByteArray.mk l.toArray).size=l.length:=by simp[ByteArray.size]
@[simp] theorem mod64 (n:UInt64):((n.toNat:Int)% 64).toNat=n.toNat% 64:=by omega
@[simp] theorem z9Yb (n:Int):z2a.lit (.int .i64 n)=i64 n:=rfl
@[simp] theorem z3ud (b:Bool):z2a.lit (.bool b)=bo b:=rfl
@[simp] theorem z7ge (x:UInt8):z2a.lit (.int .u8 (x.toNat:Int))=u8 x:=rfl
@[simp] theorem z5hc (l:List UInt8):z2a.lit (.string (z30 (bys l)))=st l:=by
 simp only[st,z30,bys,List.map_map]
 congr 3
 rw[show((fun c=>UInt8.ofNat (asI c).toNat)∘u8)=id from funext fun x=>by simp[z82b]]
 simp
@[simp] theorem z8ld (x:UInt8):z2a.lit (.string (z30 [u8 x]))=st [x]:=z5hc [x]
@[simp] theorem z04c (l:List UInt8) (a b:Nat):z2a.lit (.string ((ByteArray.mk l.toArray).extract a b))=st ((l.drop a).take (b-a)):=by
 simp only[st]
 congr 2
 apply ByteArray.ext
 rw[ByteArray.data_extract]
 simp[List.extract]
attribute [simp] z0m z2Nc z34a z0gc z4L okM z1Wb z9ha z1ic fnd Abs.ren renL
@[simp] theorem ren_u8 (m:List (Nat×Nat)) (x:UInt8):Abs.ren m (u8 x)=u8 x:=rfl
@[simp] theorem z3fe (m:List (Nat×Nat)) (x:UInt32):Abs.ren m (u32 x)=u32 x:=rfl
@[simp] theorem z2be (m:List (Nat×Nat)) (x:UInt64):Abs.ren m (u64 x)=u64 x:=rfl
@[simp] theorem z9fe (m:List (Nat×Nat)) (x:Int):Abs.ren m (i64 x)=i64 x:=rfl
@[simp] theorem ren_bo (m:List (Nat×Nat)) (x:Bool):Abs.ren m (bo x)=bo x:=rfl
@[simp] theorem ren_st (m:List (Nat×Nat)) (x:List UInt8):Abs.ren m (st x)=st x:=rfl
/-! ### Short forms of abstract code (what tools/pack.py prints) -/
@[simp] abbrev Ym (d s:Nat):z2b:=⟨some d,none,.mv false (.s s)⟩
@[simp] abbrev YM (d s:Nat):z2b:=⟨some d,none,.mv true (.s s)⟩
@[simp] abbrev Yc (d:Nat) (n:Int):z2b:=⟨some d,none,.mv false (.c (i64 n))⟩
@[simp] abbrev Yw (d:Nat) (b:Bool):z2b:=⟨some d,none,.mv false (.c (bo b))⟩
@[simp] abbrev Yl (d b a:Nat):z2b:=⟨some d,none,.load none (some b) false (.s a)⟩
@[simp] abbrev YL (d k b a:Nat):z2b:=⟨some d,none,.load (some k) (some b) false (.s a)⟩
@[simp] abbrev Yj (d a:Nat):z2b:=⟨some d,none,.load none none false (.s a)⟩
@[simp] abbrev YJ (d k a:Nat):z2b:=⟨some d,none,.load (some k) none false (.s a)⟩
@[simp] abbrev Yf (d n a:Nat):z2b:=⟨some d,none,.fieldAddr n (.s a)⟩
@[simp] abbrev Yn (d a:Nat):z2b:=⟨some d,none,.len false (.s a)⟩
@[simp] abbrev Yb (d:Nat) (o:BinOp) (x y:Nat):z2b:=⟨some d,none,.bin o (.s x) (.s y)⟩
@[simp] abbrev YB (d:Nat) (o:BinOp) (x:Nat) (n:Int):z2b:=⟨some d,none,.bin o (.s x) (.c (i64 n))⟩
@[simp] abbrev Yp (d x y:Nat):z2b:=⟨some d,none,.pick (.s x) (.s y) (.c (bo false))⟩
@[simp] abbrev YP (d x y:Nat):z2b:=⟨some d,none,.pick (.s x) (.c (bo true)) (.s y)⟩
@[simp] abbrev Yk (d f x:Nat):z2b:=⟨some d,none,.call f [.s x] []⟩
@[simp] abbrev YK (d f x y:Nat):z2b:=⟨some d,none,.call f [.s x,.s y] []⟩
@[simp] abbrev Yt (d f x y z:Nat):z2b:=⟨some d,none,.call f [.s x,.s y,.s z] []⟩
@[simp] abbrev YT (d f:Nat) (l:List Nat):z2b:=⟨some d,none,.call f (l.map .s) []⟩
@[simp] abbrev Yx (d i k a:Nat):z2b:=⟨some d,none,.box i (some k) false (.s a)⟩
@[simp] abbrev Yi (d e x y:Nat):z2b:=⟨some d,none,.idxSl e (.s x) (.s y)⟩
@[simp] abbrev Ye (d i x:Nat):z2b:=⟨some d,none,.extract i (.s x)⟩
@[simp] abbrev Ya (d n e x y:Nat):z2b:=⟨some d,none,.idxArr n e (.s x) (.s y)⟩
@[simp] abbrev YA (d n e x:Nat) (y:Int):z2b:=⟨some d,none,.idxArr n e (.s x) (.c (i64 y))⟩
@[simp] abbrev Yz (d i n:Nat):z2b:=⟨some d,none,.alloc i (bys (z9c n))⟩
@[simp] abbrev Yo (d:Nat) (o:AOp):z2b:=⟨some d,none,o⟩
@[simp] abbrev YO (o:AOp):z2b:=⟨none,none,o⟩
@[simp] abbrev Ys (k b a v:Nat):z2b:=⟨none,none,.store (some k) b false (.s a) (.s v)⟩
@[simp] abbrev YS (b a v:Nat):z2b:=⟨none,none,.store none b false (.s a) (.s v)⟩
@[simp] abbrev YG (g:Nat) (o:z2b):z2b:=⟨o.dst,some (g,true),o.op⟩
@[simp] abbrev Yg (g:Nat) (o:z2b):z2b:=⟨o.dst,some (g,false),o.op⟩
@[simp] abbrev Yr (k:List Nat) (l:List z2b) (r:z3a):z3a:= .seq (.region k [] l) r
@[simp] abbrev YR (k:List Nat) (g:List z9t) (l:List z2b) (r:z3a):z3a:= .seq (.region k g l) r
@[simp] abbrev Yq (a b:z3a):z3a:= .seq a b
@[simp] abbrev Yy (k:List Nat):z3a:= .ghost (.keep k) .skip
@[simp] abbrev YY (k:List Nat):z3a:= .ghost (.keep k) (.exit 0)
@[simp] abbrev Yu (k:List Nat) (l:List z2b):z3a:= .region k [] l
@[simp] abbrev Yd (s:Nat) (a b:z3a):z3a:= .cond (.s s) a b
end Go.Abs
end
