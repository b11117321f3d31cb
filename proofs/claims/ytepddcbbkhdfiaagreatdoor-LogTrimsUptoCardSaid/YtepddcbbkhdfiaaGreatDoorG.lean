/- Lemmas: an abstract interpreter, and what the functions compute. -/
import Derived.Test.YtepddcbbkhdfiaaGreatDoorF
set_option linter.unusedSimpArgs false
set_option linter.unusedVariables false
set_option linter.unusedSectionVars false
section
namespace Go.Abs

def z2ga (bx:List Nat):Nat→List z0a→List (Nat×z0a)
 |_,[]=>[]
 |i,d::ds=>(i,if bx.contains i then .bp i 0 else dem d)::z2ga bx (i+1) ds
def z7la (bx:List Nat) (p:Nat→Value) (ds:List z0a):ASt:=
 {org:=bx.map fun j=>(j,.lit (p j)),env:=z2ga bx 0 ds,box:=bx.map fun j=>(j,some (z3s (ds.getD j .undef)))}

def z8td (res:List z7M) (c:CM) (p:Nat→Value) (ds:List z0a):z5c→ASt→Prop
 | .normal,st| .ret,st=>(∀r∈res,z6K st r)∧z1K st res=c.post ds∧(∀j∈c.bx,lk st.org j=some (.lit (p j))∧st.get j= .bp j 0)∧(∀j∈c.bx++c.nb,st.getB j=some (c.out ds j))∧
  (∀id∈z3d (c.post ds),id∈c.bx++c.nb)∧(∀j∈c.bx++c.nb,∀id∈z6b (c.out ds j),id∈c.bx++c.nb)
 |_,_=>False

section
variable {K : Cx} {base : z4f} {n : Nat} {st : ASt} {a : Act} {w : World}

theorem z1mc (bx:List Nat):∀(ds:List z0a) (i s:Nat),lk (z2ga bx i ds) s=if i≤s then(ds[s-i]?).map fun d=>if bx.contains s then z0a.bp s 0 else dem d else none
 |[],i,s=>by simp[z2ga,lk]
 |d::ds,i,s=>by
  simp only[z2ga,lk]
  by_cases h:s=i
  ·subst h;simp
  ·rw[if_neg h,z1mc bx ds (i+1) s]
   by_cases hi:i≤s
   ·rw[if_pos hi,if_pos (by omega),show s-i=(s-(i+1))+1 by omega]
    simp
   ·rw[if_neg hi,if_neg (by omega)]
theorem z9zb {α:Type} (f:Nat→α) (s:Nat):∀l:List Nat,lk (l.map fun s=>(s,f s)) s=if s∈l then some (f s) else none
 |[]=>by simp[lk]
 |t::l=>by
  simp only[List.map_cons,lk,List.mem_cons]
  by_cases h:s=t
  ·subst h;simp
  ·rw[if_neg h,z9zb f s l]
   simp only[h,false_or]

theorem z2Oc {g:Gh} {c:CM} {ds:List z0a} {vs:List Value} (hI:Inv K ⟨w,Wr g,g.S,[],g.mu⟩ g w (c.ins ds)) (hA:z5Xc K c g w ds vs) (hb:∀j∈c.bx,j<ds.length) (m:Nat) (hm:vs.length+m=n):
  Rel K ⟨w,Wr g,g.S,[],g.mu⟩ n (z7la c.bx (fun j=> .pointer (some ⟨(g.mu j).getD 0,0,none⟩)) ds) {tmps:=vs.toArray++Array.replicate m undef,defers:=[]} w:=by
 obtain⟨hlen,hA⟩:=hA
 have hget:∀s v,vs[s]? =some v→(vs.toArray++Array.replicate m undef).getD s undef=v:=fun s v hv=>by
  have hs:s<vs.length:=(List.getElem?_eq_some_iff.1 hv).1
  rw[Array.getD_eq_getD_getElem?,Array.getElem?_append_left (by simpa using hs)]
  simp[hv]
 have harg:∀s d,ds[s]? =some d→∃v,vs[s]? =some v∧if s∈c.bx then∃b,g.mu s=some b∧v= .pointer (some ⟨b,0,none⟩) else z9b K.toCon g.S w d v:=fun s d hd=>by
  have hs:s<vs.length:=by have:=(List.getElem?_eq_some_iff.1 hd).1;omega
  exact⟨vs[s],List.getElem?_eq_getElem hs,hA s d _ hd (List.getElem?_eq_getElem hs)⟩
 have hgb:(z7la c.bx (fun j=> .pointer (some ⟨(g.mu j).getD 0,0,none⟩)) ds).getB=c.ins ds:=funext fun j=>by
  simp only[ASt.getB,z7la,z9zb fun j=>some (z3s (ds.getD j .undef)),CM.ins]
  split<;>rfl
 have horg:∀s,lk (z7la c.bx (fun j=> .pointer (some ⟨(g.mu j).getD 0,0,none⟩)) ds).org s=if s∈c.bx then some (.lit (.pointer (some ⟨(g.mu s).getD 0,0,none⟩))) else none:=fun s=>
  z9zb (fun j=>z0a.lit (.pointer (some ⟨(g.mu j).getD 0,0,none⟩))) s c.bx
 refine⟨g,by rw[hgb];exact hI,fun s=> ?_,fun s d hs=> ?_,rfl,by simp;exact hm⟩
 ·unfold ASt.get
  rw[horg]
  show Rep K.toCon g w (some (.slot s)) (match lk (z2ga c.bx 0 ds) s with|some d=>d|none=>_) _
  rw[z1mc,if_pos (Nat.zero_le _),Nat.sub_zero]
  cases hd:ds[s]? with
  |none=>
   have hns:s∉c.bx:=fun h=>by have:=hb s h;rw[List.getElem?_eq_none_iff] at hd;omega
   simp[hns,Abs.dem,Rep]
  |some d=>
   obtain⟨v,hv,hr⟩:=harg s d hd
   rw[hget s v hv]
   simp only[Option.map_some,List.contains_iff_mem]
   by_cases hs:s∈c.bx
   ·rw[if_pos hs] at hr⊢
    obtain⟨b,hb,rfl⟩:=hr
    simp only[Rep]
    exact⟨b,hb,rfl⟩
   ·rw[if_neg hs] at hr⊢
    exact z9b.dem (g:=g) _ hr
 ·rw[horg] at hs
  split at hs
  ·rename_i hm
   cases hs
   obtain⟨v,hv,hr⟩:=harg s _ (List.getElem?_eq_getElem (hb s hm))
   rw[if_pos hm] at hr
   obtain⟨b,hb,rfl⟩:=hr
   show z9b _ _ _ _ _
   rw[hget s _ hv]
   simp[z9b,hb]
  ·cases hs

theorem z7yc {g:Gh} {getB:Nat→Option (List z0a)} (hI:Inv K base g w getB) (js:List Nat) {out:Nat→List z0a} (h1:∀j∈js,getB j=some (out j)) (h2:∀j∈js,∀id∈z6b (out j),id∈js):
  Inv K base {g with mu:=fun j=>if j∈js then g.mu j else none} w (fun j=>if j∈js then some (out j) else none):=by
 refine⟨hI.fr,hI.sS,fun i j b hi hj=> ?_,fun id cs hc=> ?_,fun id hid=> ?_,fun id b hb=> ?_,hI.owW,hI.glob,hI.kp,fun id b cs ho hb hc hd=> ?_,fun id b h3 h4 hb=>by
  replace hb:(if id∈js then g.mu id else none)=some b:=hb
  split at hb
  ·exact hI.old id b h3 h4 hb
  ·cases hb⟩
 ·replace hi:(if i∈js then g.mu i else none)=some b:=hi
  replace hj:(if j∈js then g.mu j else none)=some b:=hj
  split at hi
  ·split at hj
   ·exact hI.inj i j b hi hj
   ·cases hj
  ·cases hi
 ·split at hc
  ·rename_i hm
   cases hc
   obtain⟨b,k1,k2,k3⟩:=hI.bxok id _ (h1 id hm)
   refine⟨b,by simp only[if_pos hm];exact k1,k2,fun i d hi=> ?_⟩
   obtain⟨⟨x,h4,h5⟩,h6⟩:=k3 i d hi
   exact⟨⟨x,h4,Rep.mono (g:=g) (g':={g with mu:=fun j=>if j∈js then g.mu j else none}) (z9d.refl g.S w) d x (some (.cell id i)) (some (.cell id i)) (fun id' hid' b' hb'=>by show(if id'∈js then g.mu id' else none)=some b';rw[if_pos (h2 id hm id' (z34a (z9va hi) hid'))];exact hb') (fun m hm=>⟨m,hm,fun b hb=>⟨hb,rfl,fun _ _ h=>h⟩⟩) h5⟩,h6⟩
  ·cases hc
 ·show(if id∈js then g.mu id else none)=none
  replace hid:(if id∈js then some (out id) else none)=none:=hid
  split at hid
  ·cases hid
  ·rename_i hm;rw[if_neg hm]
 ·replace hb:(if id∈js then g.mu id else none)=some b:=hb
  split at hb
  ·exact hI.muW id b hb
  ·cases hb
 ·replace hb:(if id∈js then g.mu id else none)=some b:=hb
  split at hb
  ·rename_i hm
   rw[if_pos hm] at hc
   cases hc
   exact hI.obok id b _ ho hb (h1 id hm) hd
  ·cases hb

theorem z8rc {f:Nat} {fn:Func} {F:z1ka} {c:CM} (hf:K.P.funcs[K.nu f]? =some fn) (hc:z5sa K F fn=true) (hs:z2Ec K F.body) (hb:∀j∈c.bx,j<F.n)
  (h:∀ds p,c.pre ds→ds.length=F.n∧awp K.E F.body (z8td F.res c p ds) (z7la c.bx p ds)) (ht:z2Da F.body=true):z7Ia K f c:=by
 simp only[z5sa,Bool.and_eq_true,Bool.not_eq_true',decide_eq_true_eq] at hc
 obtain⟨⟨⟨hname,hbody⟩,hres⟩,hsz⟩:=hc
 cases hbd:fn.body with
 |none=>rw[hbd] at hbody;cases hbody
 |some code=>
  rw[hbd] at hbody
  simp only at hbody
  refine⟨⟨fn,hf,by rw[hbd];rfl,hname⟩,fun g0 w ds vs hI0 hA hpre=> ?_⟩
  obtain⟨hlen,hw⟩:=h ds (fun j=> .pointer (some ⟨(g0.mu j).getD 0,0,none⟩)) hpre
  have hl2:=hA.1
  refine callsIn_wide.1 (callsIn_of_wp_marks (F:=WF none) (n:=0) hf hbd (z36b none _) ?_)
  have hR:=z2Oc (n:=fn.ntmps) hI0 hA (fun j hj=>by rw[hlen];exact hb j hj) (fn.ntmps-vs.length) (by omega)
  have hwp:=hs fn.ntmps code _ _ _ _ w hbody (.inl ht) hw hR
  simp only[List.size_toArray]
  refine wpIn_mono hwp fun e a' w' hl=> ?_
  have fin:∀st g w',Inv K ⟨w,Wr g0,g0.S,[],g0.mu⟩ g w' st.getB→z2v K g w' st.get a'→(∀j∈c.bx,lk st.org j=some (.lit (.pointer (some ⟨(g0.mu j).getD 0,0,none⟩)))→a'.tmps.getD j undef= .pointer (some ⟨(g0.mu j).getD 0,0,none⟩))→z8td F.res c (fun j=> .pointer (some ⟨(g0.mu j).getD 0,0,none⟩)) ds .ret st→
    ∃v,(results fn a'.tmps).run K.P w'= .ok v w'∧∃v' g',Ending.returned v= .returned v'∧Inv K ⟨w,Wr g0,g0.S,[],g0.mu⟩ g' w' (c.outs ds)∧(∀j∈c.bx,g'.mu j=g0.mu j)∧Rep K.toCon g' w' (some .ret) (c.post ds) v':=fun st g w' hI hS hO hq=>by
   obtain⟨hok,hval,hbx,hout,hr1,hr2⟩:=hq
   obtain⟨xs,h1,h2,h3,_⟩:=z3Kb hI hS hres hok
   have hmap:fn.results.mapM (z19a a'.tmps)=Functor.map List.toArray (fn.results.toList.mapM (z19a a'.tmps)):=by
    exact Array.mapM_eq_mapM_toList
   have hrun:(results fn a'.tmps).run K.P w'= .ok (if h:xs.toArray.size=1 then xs.toArray[0] else .tuple xs.toArray) w':=by
    have:results fn a'.tmps=(do
     let vs←fn.results.mapM (z19a a'.tmps)
     pure (if h:vs.size=1 then vs[0] else .tuple vs)):=rfl
    rw[this,hmap]
    simp only[map_eq_pure_bind,Sem.run_bind,h1,Result.andThen_ok,Sem.run_pure]
   refine⟨_,hrun,?_⟩
   let g':Gh:={g with mu:=fun j=>if j∈c.bx++c.nb then g.mu j else none}
   have hI':Inv K ⟨w,Wr g0,g0.S,[],g0.mu⟩ g' w' (c.outs ds):=z7yc hI (c.bx++c.nb) hout hr2
   have hmu:∀j∈c.bx,g'.mu j=g0.mu j:=fun j hj=>by
    obtain⟨k1,k2⟩:=hbx j hj
    have e1:=hO j hj k1
    have e2:=hS j
    rw[k2] at e2
    simp only[Rep] at e2
    obtain⟨b,hb1,hb2⟩:=e2
    rw[hb2] at e1
    simp only[Value.pointer.injEq,Option.some.injEq,Addr.mk.injEq,and_true] at e1
    obtain⟨d,hd⟩:∃d,ds[j]? =some d:=⟨_,List.getElem?_eq_getElem (by rw[hlen];exact hb j hj)⟩
    have:=hA.2 j d (vs[j]'(by rw[←hl2,hlen];exact hb j hj)) hd (List.getElem?_eq_getElem _)
    rw[if_pos hj] at this
    obtain⟨b',hb',_⟩:=this
    rw[hb'] at e1
    simp only[Option.getD_some] at e1
    simp only[g',if_pos (List.mem_append_left c.nb hj)]
    rw[hb1,hb',e1]
   have cut:∀{d:z0a} {v:Value} {l:Option Loc},(∀id∈z3d d,id∈c.bx++c.nb)→Rep K.toCon g w' l d v→Rep K.toCon g' w' l d v:=fun {d v l} hd hr=>
    Rep.mono (g:=g) (g':=g') (z9d.refl g.S w') d v l l (fun id hid b hb=>by simp only[g',if_pos (hd id hid)];exact hb) (fun m hm=>⟨m,hm,fun b hb=>⟨hb,rfl,fun _ _ h=>h⟩⟩) hr
   by_cases hone:∃s,F.res=[.t s]
   ·obtain⟨s,hs⟩:=hone
    have hx:=h3 s hs
    subst hx
    rw[hs] at hval
    simp only[z1K] at hval
    refine⟨a'.tmps.getD s undef,z4Pa g' (.slot s) .ret,by simp,z4bb hI' s .ret,hmu,?_⟩
    rw[←hval] at hr1⊢
    exact z8Ca (cut hr1 (hS s))
   ·have hl3:=h2.len
    simp only[List.length_map] at hl3
    have rest:∀{d:z0a} {v:Value},Rep K.toCon g w' none d v→z5b d=false→d=c.post ds→Rep K.toCon g' w' (some .ret) (c.post ds) v:=fun {d v} hr ho he=>by
     subst he;exact z80a _ ho (cut hr1 hr)
    have hdem:∀d:z0a,z5b (dem d)=false:=z9Ua
    cases hF:F.res with
    |nil=>
     rw[hF] at h2 hval hl3
     simp only[List.map_nil,z2b] at h2
     subst h2
     refine⟨_,g',rfl,hI',hmu,?_⟩
     refine rest (d:= .tup []) ?_ rfl (by rw[←hval];rfl)
     simp[Rep,z2b]
    |cons r rs=>
     rw[hF] at h2 hval hl3 hone
     cases rs with
     |nil=>
      simp only[List.map_cons,List.map_nil,z2b] at h2
      obtain⟨x,ys,rfl,h4,rfl⟩:=h2
      refine⟨x,g',by simp,hI',hmu,?_⟩
      cases r with
      |t s=>exact absurd ⟨s,rfl⟩ hone
      |o s=>
       simp only[z1K] at hval
       exact rest h4 (hdem _) hval
      |cell s k id=>
       simp only[z1K] at hval
       refine rest h4 ?_ hval
       cases k with
       |none=>exact hdem _
       |some n=>rfl
     |cons r2 rs=>
      have h5:¬(xs.toArray.size=1):=by simp only[List.size_toArray,←hl3,List.length_cons];omega
      refine⟨.tuple xs.toArray,g',by rw[dif_neg h5],hI',hmu,?_⟩
      refine rest (d:= .tup ((r::r2::rs).map (z97 st))) ?_ rfl (by rw[←hval];cases r<;>rfl)
      simp only[Rep]
      exact⟨_,rfl,by simpa using h2⟩
  cases e<;>simp only[z2Mb] at hl<;>simp only[bodyPostM]
  ·obtain⟨b',hE,st,hR',hq⟩:=hl
   exact z9Ec hE rfl hR' fun g w' hI hS hO=>fin st g w' hI hS (fun j _ hj=>by have:=hO j _ hj;simpa[z9b] using this) hq
  ·obtain⟨b',hE,st,_,hq⟩:=hl
   exact hq
  ·obtain⟨b',hE,st,hR',hq⟩:=hl
   exact z9Ec hE rfl hR' fun g w' hI hS hO=>fin st g w' hI hS (fun j _ hj=>by have:=hO j _ hj;simpa[z9b] using this) hq

theorem z4Xb {f:Nat} {fn:Func} {F:z1ka} {c:CM} (hf:K.P.funcs[K.nu f]? =some fn) (hc:z5sa K F fn=true) (hv:∀p∈z4a F.body,VB K p) (hb:∀j∈c.bx,j<F.n)
  (h:∀ds p,c.pre ds→ds.length=F.n∧awp K.E F.body (z8td F.res c p ds) (z7la c.bx p ds)) (hfl:z4ya F.body=true) (ht:z2Da F.body=true):z7Ia K f c:=z8rc hf hc (z2gb hv hfl) hb h ht
end
end Go.Abs
end

section
namespace Go.Abs

def u8 (x:UInt8):z0a:= .lit (.int .u8 x.toNat)
def u32 (x:UInt32):z0a:= .lit (.int .u32 x.toNat)
def u64 (x:UInt64):z0a:= .lit (.int .u64 x.toNat)
def i64 (x:Int):z0a:= .lit (.int .i64 x)
def bo (x:Bool):z0a:= .lit (.bool x)
def st (l:List UInt8):z0a:= .lit (.string ⟨l.toArray⟩)
def bys (l:List UInt8):List z0a:=l.map u8
def z7g (l:List UInt32):List z0a:=l.map u32
def W (n:Int):Int:=IntKind.i64.wrap n

theorem z6G {n:Int} (h0: -9223372036854775808≤n) (h1:n≤9223372036854775807):W n=n:=by
 unfold W IntKind.wrap IntKind.bits IntKind.signed
 simp only[Bool.true_and,decide_eq_true_eq]
 split<;>omega

theorem z9h (n:Nat):IntKind.u8.wrap (n:Int)=((n% 256:Nat):Int):=by
 unfold IntKind.wrap IntKind.bits IntKind.signed
 simp
theorem z3g (n:Nat):IntKind.u32.wrap (n:Int)=((n% 4294967296:Nat):Int):=by
 unfold IntKind.wrap IntKind.bits IntKind.signed
 simp
theorem z3f (n:Nat):IntKind.u64.wrap (n:Int)=((n% 18446744073709551616:Nat):Int):=by
 unfold IntKind.wrap IntKind.bits IntKind.signed
 simp

section looks
@[simp] theorem z6C (x:UInt8):asI (u8 x)=x.toNat:=rfl
@[simp] theorem z0M (x:UInt32):asI (u32 x)=x.toNat:=rfl
@[simp] theorem z6M (x:UInt64):asI (u64 x)=x.toNat:=rfl
@[simp] theorem z1t (x:Int):asI (i64 x)=x:=rfl
@[simp] theorem z4D (x:Bool):asB (bo x)=x:=rfl
@[simp] theorem asS_st (l:List UInt8):asS (st l)=⟨l.toArray⟩:=rfl
@[simp] theorem isB_bo (x:Bool):isB (bo x)↔True:=by simp[isB,bo]
@[simp] theorem isI_u8 (x:UInt8):isI (u8 x)↔True:=by simp[isI,u8]
@[simp] theorem z0ja (x:UInt32):isI (u32 x)↔True:=by simp[isI,u32]
@[simp] theorem z1pa (x:UInt64):isI (u64 x)↔True:=by simp[isI,u64]
@[simp] theorem z9ja (x:Int):isI (i64 x)↔True:=by simp[isI,i64]
@[simp] theorem z3ga (x:UInt8):z28 .u8 (u8 x)↔True:=by simp[z28,u8]
@[simp] theorem isS_st (l:List UInt8):isS (st l)↔True:=by simp[isS,st]
@[simp] theorem dem_u8 (x:UInt8):dem (u8 x)=u8 x:=rfl
@[simp] theorem z1na (x:UInt32):dem (u32 x)=u32 x:=rfl
@[simp] theorem z7ha (x:UInt64):dem (u64 x)=u64 x:=rfl
@[simp] theorem z8fa (x:Int):dem (i64 x)=i64 x:=rfl
@[simp] theorem dem_bo (x:Bool):dem (bo x)=bo x:=rfl
@[simp] theorem dem_st (x:List UInt8):dem (st x)=st x:=rfl
@[simp] theorem z31 (x:UInt8):z8a (u8 x)↔True:=by simp[z8a,u8]
@[simp] theorem z4S (x:UInt32):z8a (u32 x)↔True:=by simp[z8a,u32]
@[simp] theorem z6Q (x:UInt64):z8a (u64 x)↔True:=by simp[z8a,u64]
@[simp] theorem z1S (x:Int):z8a (i64 x)↔True:=by simp[z8a,i64]
@[simp] theorem z15 (x:Bool):z8a (bo x)↔True:=by simp[z8a,bo]
@[simp] theorem z83 (x:List UInt8):z8a (st x)↔True:=by simp[z8a,st]
@[simp] theorem z7da (x:UInt8):z0b (u8 x)=true:=rfl
@[simp] theorem z82 (x:UInt32):z0b (u32 x)=true:=rfl
@[simp] theorem z33 (x:UInt64):z0b (u64 x)=true:=rfl
@[simp] theorem z00 (x:Int):z0b (i64 x)=true:=rfl
@[simp] theorem z3da (x:Bool):z0b (bo x)=true:=rfl
@[simp] theorem z0aa (x:List UInt8):z0b (st x)=true:=rfl
@[simp] theorem z2U (x:UInt8):z6c (u8 x)=true:=rfl
@[simp] theorem z9J (x:UInt32):z6c (u32 x)=true:=rfl
@[simp] theorem z3J (x:UInt64):z6c (u64 x)=true:=rfl
@[simp] theorem z1M (x:Int):z6c (i64 x)=true:=rfl
@[simp] theorem z0S (x:Bool):z6c (bo x)=true:=rfl
@[simp] theorem z8P (x:List UInt8):z6c (st x)=true:=rfl
@[simp] theorem z5ja (x:UInt8):z3d (u8 x)=[]:=rfl
@[simp] theorem z5ba (x:UInt32):z3d (u32 x)=[]:=rfl
@[simp] theorem z2ca (x:UInt64):z3d (u64 x)=[]:=rfl
@[simp] theorem z1ba (x:Int):z3d (i64 x)=[]:=rfl
@[simp] theorem z6pa (x:Bool):z3d (bo x)=[]:=rfl
@[simp] theorem z3pa (x:List UInt8):z3d (st x)=[]:=rfl
@[simp] theorem z41 (x:UInt8):z5b (u8 x)=false:=rfl
@[simp] theorem z5Q (x:UInt32):z5b (u32 x)=false:=rfl
@[simp] theorem z4W (x:UInt64):z5b (u64 x)=false:=rfl
@[simp] theorem z3W (x:Int):z5b (i64 x)=false:=rfl
@[simp] theorem z6X (x:Bool):z5b (bo x)=false:=rfl
@[simp] theorem z9X (x:List UInt8):z5b (st x)=false:=rfl
@[simp] theorem z54 (x:UInt8):z4c (u8 x)=[u8 x]:=rfl
@[simp] theorem z7U (x:UInt32):z4c (u32 x)=[u32 x]:=rfl
@[simp] theorem z9P (x:UInt64):z4c (u64 x)=[u64 x]:=rfl
@[simp] theorem z4U (x:Int):z4c (i64 x)=[i64 x]:=rfl
@[simp] theorem z14 (x:Bool):z4c (bo x)=[bo x]:=rfl
@[simp] theorem z60 (x:List UInt8):z4c (st x)=[st x]:=rfl
@[simp] theorem z3ha (l:List UInt8):z7e (st l)=l.length:=by simp[z7e,st,ByteArray.size]
@[simp] theorem z12 (bx:List z0a) (l:List UInt8):z0c bx (st l)=bys l:=by simp[z0c,st,bys,u8]
end looks

section arith
@[simp] theorem z3K (x y:Int):z9c .add (i64 x) (i64 y)=i64 (W (x+y)):=rfl
@[simp] theorem z9L (x y:Int):z9c .sub (i64 x) (i64 y)=i64 (W (x-y)):=rfl
@[simp] theorem z6L (x y:Int):z9c .mul (i64 x) (i64 y)=i64 (W (x*y)):=rfl
@[simp] theorem z5N (x y:Int):z9c .quo (i64 x) (i64 y)=i64 (W (x.tdiv y)):=rfl
@[simp] theorem z1L (x y:Int):z9c .rem (i64 x) (i64 y)=i64 (x.tmod y):=rfl
@[simp] theorem z4K (x y:Int):z9c .eql (i64 x) (i64 y)=bo (x==y):=rfl
@[simp] theorem z4I (x y:Int):z9c .neq (i64 x) (i64 y)=bo (x !=y):=rfl
@[simp] theorem z4J (x y:Int):z9c .lss (i64 x) (i64 y)=bo (decide (x<y)):=rfl
@[simp] theorem z3M (x y:Int):z9c .leq (i64 x) (i64 y)=bo (decide (x≤y)):=rfl
@[simp] theorem z0O (x y:Int):z9c .gtr (i64 x) (i64 y)=bo (decide (y<x)):=rfl
@[simp] theorem z7J (x y:Int):z9c .geq (i64 x) (i64 y)=bo (decide (y≤x)):=rfl

theorem z5d {n:Int} {x:UInt32} (h:n=x.toNat):z0a.lit (.int .u32 n)=u32 x:=by rw[h];rfl
theorem z6g {n:Int} {x:UInt8} (h:n=x.toNat):z0a.lit (.int .u8 n)=u8 x:=by rw[h];rfl
theorem z3c {n:Int} {x:UInt64} (h:n=x.toNat):z0a.lit (.int .u64 n)=u64 x:=by rw[h];rfl

theorem z8k (k n:Nat):(BitVec.ofInt k (n:Int)).toNat=n% 2^k:=by
 simp[BitVec.toNat_ofInt]
theorem z1i (x:UInt32):BitVec.ofInt 32 (x.toNat:Int)=x.toBitVec:=by
 apply BitVec.eq_of_toNat_eq
 rw[z8k]
 exact Nat.mod_eq_of_lt x.toNat_lt
theorem z4A (x:UInt8):BitVec.ofInt 8 (x.toNat:Int)=x.toBitVec:=by
 apply BitVec.eq_of_toNat_eq
 rw[z8k]
 exact Nat.mod_eq_of_lt x.toNat_lt
theorem z3m (x:UInt64):BitVec.ofInt 64 (x.toNat:Int)=x.toBitVec:=by
 apply BitVec.eq_of_toNat_eq
 rw[z8k]
 exact Nat.mod_eq_of_lt x.toNat_lt
theorem z7f (x:BitVec 32):IntKind.u32.wrap (x.toNat:Int)=(x.toNat:Int):=by rw[z3g,Nat.mod_eq_of_lt x.isLt]
theorem z2q (x:BitVec 8):IntKind.u8.wrap (x.toNat:Int)=(x.toNat:Int):=by rw[z9h,Nat.mod_eq_of_lt x.isLt]
theorem z0j (x:BitVec 64):IntKind.u64.wrap (x.toNat:Int)=(x.toNat:Int):=by rw[z3f,Nat.mod_eq_of_lt x.isLt]

@[simp] theorem z5L (x y:UInt32):z9c .add (u32 x) (u32 y)=u32 (x+y):=z5d (by
 show IntKind.u32.wrap ((x.toNat:Int)+y.toNat)=_
 rw[←Int.natCast_add,z3g,UInt32.toNat_add])
@[simp] theorem z6V (x y:UInt8):z9c .add (u8 x) (u8 y)=u8 (x+y):=z6g (by
 show IntKind.u8.wrap ((x.toNat:Int)+y.toNat)=_
 rw[←Int.natCast_add,z9h,UInt8.toNat_add])
@[simp] theorem z8K (x y:UInt64):z9c .add (u64 x) (u64 y)=u64 (x+y):=z3c (by
 show IntKind.u64.wrap ((x.toNat:Int)+y.toNat)=_
 rw[←Int.natCast_add,z3f,UInt64.toNat_add])
@[simp] theorem z5J (x y:UInt64):z9c .mul (u64 x) (u64 y)=u64 (x*y):=z3c (by
 show IntKind.u64.wrap ((x.toNat:Int)*y.toNat)=_
 rw[←Int.natCast_mul,z3f,UInt64.toNat_mul])
@[simp] theorem z8O (x y:UInt32):z9c .and (u32 x) (u32 y)=u32 (x&&&y):=z5d (by
 show IntKind.u32.wrap ((BitVec.ofInt 32 x.toNat&&&BitVec.ofInt 32 y.toNat).toNat:Int)=_
 rw[z1i,z1i,z7f]
 rfl)
@[simp] theorem z5U (x y:UInt32):z9c .or (u32 x) (u32 y)=u32 (x|||y):=z5d (by
 show IntKind.u32.wrap ((BitVec.ofInt 32 x.toNat|||BitVec.ofInt 32 y.toNat).toNat:Int)=_
 rw[z1i,z1i,z7f]
 rfl)
@[simp] theorem z8M (x y:UInt32):z9c .xor (u32 x) (u32 y)=u32 (x^^^y):=z5d (by
 show IntKind.u32.wrap ((BitVec.ofInt 32 x.toNat^^^BitVec.ofInt 32 y.toNat).toNat:Int)=_
 rw[z1i,z1i,z7f]
 rfl)
@[simp] theorem z3Z (x y:UInt8):z9c .or (u8 x) (u8 y)=u8 (x|||y):=z6g (by
 show IntKind.u8.wrap ((BitVec.ofInt 8 x.toNat|||BitVec.ofInt 8 y.toNat).toNat:Int)=_
 rw[z4A,z4A,z2q]
 rfl)
@[simp] theorem z4R (x y:UInt8):z9c .xor (u8 x) (u8 y)=u8 (x^^^y):=z6g (by
 show IntKind.u8.wrap ((BitVec.ofInt 8 x.toNat^^^BitVec.ofInt 8 y.toNat).toNat:Int)=_
 rw[z4A,z4A,z2q]
 rfl)
@[simp] theorem z2R (x y:UInt64):z9c .or (u64 x) (u64 y)=u64 (x|||y):=z3c (by
 show IntKind.u64.wrap ((BitVec.ofInt 64 x.toNat|||BitVec.ofInt 64 y.toNat).toNat:Int)=_
 rw[z3m,z3m,z0j]
 rfl)

@[simp] theorem z1U (x y:UInt8):z9c .eql (u8 x) (u8 y)=bo (x==y):=by
 show z0a.lit (.bool ((x.toNat:Int)==y.toNat))= .lit (.bool _)
 congr 2
 rw[Bool.eq_iff_iff]
 simp only[beq_iff_eq,bne_iff_ne,ne_eq,←UInt8.toNat_inj]
 omega
@[simp] theorem z7Q (x y:UInt8):z9c .neq (u8 x) (u8 y)=bo (x !=y):=by
 show z0a.lit (.bool ((x.toNat:Int) !=y.toNat))= .lit (.bool _)
 congr 2
 rw[Bool.eq_iff_iff]
 simp only[beq_iff_eq,bne_iff_ne,ne_eq,←UInt8.toNat_inj]
 omega
@[simp] theorem z9H (x y:UInt64):z9c .eql (u64 x) (u64 y)=bo (x==y):=by
 show z0a.lit (.bool ((x.toNat:Int)==y.toNat))= .lit (.bool _)
 congr 2
 rw[Bool.eq_iff_iff]
 simp only[beq_iff_eq,bne_iff_ne,ne_eq,←UInt64.toNat_inj]
 omega
@[simp] theorem z9M (x y:UInt64):z9c .gtr (u64 x) (u64 y)=bo (decide (y<x)):=by
 show z0a.lit (.bool (decide ((x.toNat:Int)>y.toNat)))= .lit (.bool _)
 congr 2
 simp[UInt64.lt_iff_toNat_lt]
@[simp] theorem z6O (x y:UInt64):z9c .lss (u64 x) (u64 y)=bo (decide (x<y)):=by
 show z0a.lit (.bool (decide ((x.toNat:Int)<y.toNat)))= .lit (.bool _)
 congr 2
 simp[UInt64.lt_iff_toNat_lt]
@[simp] theorem z8L (x y:UInt64):z9c .rem (u64 x) (u64 y)=u64 (x% y):=z3c (by
 show((x.toNat:Int).tmod y.toNat)=_
 rw[UInt64.toNat_mod]
 rfl)
@[simp] theorem z9R (x:UInt32):unV .xor (u32 x)=u32 (~~~x):=z5d (by
 show IntKind.u32.wrap ((BitVec.ofInt 32 4294967295^^^BitVec.ofInt 32 x.toNat).toNat:Int)=_
 rw[z1i,z7f]
 have e:(BitVec.ofInt 32 4294967295)=BitVec.allOnes 32:=by decide
 rw[e,BitVec.allOnes_xor]
 rfl)
@[simp] theorem z0U (x:UInt64):unV .xor (u64 x)=u64 (~~~x):=z3c (by
 show IntKind.u64.wrap ((BitVec.ofInt 64 18446744073709551615^^^BitVec.ofInt 64 x.toNat).toNat:Int)=_
 rw[z3m,z0j]
 have e:(BitVec.ofInt 64 18446744073709551615)=BitVec.allOnes 64:=by decide
 rw[e,BitVec.allOnes_xor]
 rfl)
@[simp] theorem un_not (x:Bool):unV .not (bo x)=bo (!x):=rfl
@[simp] theorem z3S (x:Int):unV .neg (i64 x)=i64 (W (-x)):=by
 show z0a.lit (.int .i64 (IntKind.i64.wrap (0-x)))=_
 rw[Int.zero_sub];rfl
end arith

/-! ### Shifts and conversions -/
def z8q (x:UInt32) (n:Nat):UInt32:=⟨x.toBitVec>>>n⟩
def z7A (x:UInt32) (n:Nat):UInt32:=⟨x.toBitVec<<<n⟩
def z5n (x:UInt64) (n:Nat):UInt64:=⟨x.toBitVec>>>n⟩
def z8Z (x:UInt64) (n:Nat):UInt64:=⟨x.toBitVec<<<n⟩

theorem z6l (b n:Nat) (x:BitVec b):((x.toNat:Int).fdiv (2^min n b))=((x>>>n).toNat:Int):=by
 have h2:((2:Int)^min n b)=((2^min n b:Nat):Int):=by simp
 rw[h2,BitVec.toNat_ushiftRight,Nat.shiftRight_eq_div_pow]
 have:((x.toNat:Int).fdiv ((2^min n b:Nat):Int))=((x.toNat/2^min n b:Nat):Int):=by
  rw[Int.fdiv_eq_ediv_of_nonneg _ (Int.natCast_nonneg _)]
  rfl
 rw[this]
 rcases Nat.le_total n b with h|h
 ·rw[Nat.min_eq_left h]
 ·rw[Nat.min_eq_right h,Nat.div_eq_of_lt x.isLt,Nat.div_eq_of_lt]
  exact Nat.lt_of_lt_of_le x.isLt (Nat.pow_le_pow_right (by decide) h)

theorem z9k (b n:Nat) (x:BitVec b):(x.toNat*2^min n b)% 2^b=(x<<<n).toNat:=by
 rw[BitVec.toNat_shiftLeft,Nat.shiftLeft_eq]
 rcases Nat.le_total n b with h|h
 ·rw[Nat.min_eq_left h]
 ·rw[Nat.min_eq_right h,Nat.mul_mod_left]
  obtain⟨k,rfl⟩:=Nat.exists_eq_add_of_le h
  rw[Nat.pow_add,←Nat.mul_assoc,Nat.mul_right_comm,Nat.mul_mod_left]

theorem z7h (x n b:Nat):((x:Int)*2^min n b)=((x*2^min n b:Nat):Int):=by simp

@[simp] theorem z5K (x:UInt32) (n:Int):z9c .shr (u32 x) (i64 n)=u32 (z8q x n.toNat):=z5d (z6l 32 n.toNat x.toBitVec)
@[simp] theorem z5H (x:UInt32) (n:UInt64):z9c .shr (u32 x) (u64 n)=u32 (z8q x n.toNat):=z5d (z6l 32 n.toNat x.toBitVec)
@[simp] theorem z0J (x:UInt64) (n:Int):z9c .shr (u64 x) (i64 n)=u64 (z5n x n.toNat):=z3c (z6l 64 n.toNat x.toBitVec)
@[simp] theorem z6F (x:UInt64) (n:UInt64):z9c .shr (u64 x) (u64 n)=u64 (z5n x n.toNat):=z3c (z6l 64 n.toNat x.toBitVec)
@[simp] theorem z2I (x:UInt32) (n:Int):z9c .shl (u32 x) (i64 n)=u32 (z7A x n.toNat):=z5d (by
 show IntKind.u32.wrap ((x.toNat:Int)*2^min n.toNat 32)=_
 rw[z7h,z3g]
 exact congrArg _ (z9k 32 n.toNat x.toBitVec))
@[simp] theorem z7G (x:UInt32) (n:UInt64):z9c .shl (u32 x) (u64 n)=u32 (z7A x n.toNat):=z5d (by
 show IntKind.u32.wrap ((x.toNat:Int)*2^min n.toNat 32)=_
 rw[z7h,z3g]
 exact congrArg _ (z9k 32 n.toNat x.toBitVec))
@[simp] theorem z1O (x:UInt64) (n:Int):z9c .shl (u64 x) (i64 n)=u64 (z8Z x n.toNat):=z3c (by
 show IntKind.u64.wrap ((x.toNat:Int)*2^min n.toNat 64)=_
 rw[z7h,z3f]
 exact congrArg _ (z9k 64 n.toNat x.toBitVec))
@[simp] theorem z4G (x:UInt64) (n:UInt64):z9c .shl (u64 x) (u64 n)=u64 (z8Z x n.toNat):=z3c (by
 show IntKind.u64.wrap ((x.toNat:Int)*2^min n.toNat 64)=_
 rw[z7h,z3f]
 exact congrArg _ (z9k 64 n.toNat x.toBitVec))

@[simp] theorem z4L (x y:UInt64):z9c .sub (u64 x) (u64 y)=u64 (x-y):=z3c (by
 show IntKind.u64.wrap ((x.toNat:Int)-y.toNat)=_
 rw[UInt64.toNat_sub]
 have:=x.toNat_lt
 have:=y.toNat_lt
 unfold IntKind.wrap IntKind.bits IntKind.signed
 simp only[Bool.false_and,Bool.false_eq_true,if_false]
 omega)
@[simp] theorem z0N (x y:UInt64):z9c .and (u64 x) (u64 y)=u64 (x&&&y):=z3c (by
 show IntKind.u64.wrap ((BitVec.ofInt 64 x.toNat&&&BitVec.ofInt 64 y.toNat).toNat:Int)=_
 rw[z3m,z3m,z0j]
 rfl)

@[simp] theorem z42 (x:UInt32):cvV .u8 (u32 x)=u8 x.toUInt8:=z6g (by
 show IntKind.u8.wrap (x.toNat:Int)=_
 rw[z9h,UInt32.toNat_toUInt8])
@[simp] theorem z0Z (x:UInt64):cvV .u8 (u64 x)=u8 x.toUInt8:=z6g (by
 show IntKind.u8.wrap (x.toNat:Int)=_
 rw[z9h,UInt64.toNat_toUInt8])
@[simp] theorem z6Y (x:UInt8):cvV .u32 (u8 x)=u32 x.toUInt32:=z5d (by
 show IntKind.u32.wrap (x.toNat:Int)=_
 rw[z3g,UInt8.toNat_toUInt32,Nat.mod_eq_of_lt (by have:=x.toNat_lt;omega)])
@[simp] theorem z2Z (x:UInt8):cvV .u64 (u8 x)=u64 x.toUInt64:=z3c (by
 show IntKind.u64.wrap (x.toNat:Int)=_
 rw[z3f,UInt8.toNat_toUInt64,Nat.mod_eq_of_lt (by have:=x.toNat_lt;omega)])
theorem z9g (n:Int) (m:Nat) (hm:0<m):(((n% (m:Int)).toNat:Nat):Int)=n% (m:Int):=Int.toNat_of_nonneg (Int.emod_nonneg _ (by omega))
theorem z5t (n:Int):(UInt8.ofInt n).toNat=(n% 256).toNat:=by
 unfold UInt8.ofInt
 rw[UInt8.toNat_ofNat',Nat.mod_eq_of_lt (by omega)]
 rfl
theorem z6t (n:Int):(UInt32.ofInt n).toNat=(n% 4294967296).toNat:=by
 unfold UInt32.ofInt
 rw[UInt32.toNat_ofNat',Nat.mod_eq_of_lt (by omega)]
 rfl
theorem z3l (n:Int):(UInt64.ofInt n).toNat=(n% 18446744073709551616).toNat:=by
 unfold UInt64.ofInt
 rw[UInt64.toNat_ofNat',Nat.mod_eq_of_lt (by omega)]
 rfl
@[simp] theorem z5Y (n:Int):cvV .u8 (i64 n)=u8 (UInt8.ofInt n):=z6g (by
 show IntKind.u8.wrap n=_
 rw[show(UInt8.ofInt n).toNat=(n% 256).toNat from z5t n]
 exact(z9g n 256 (by decide)).symm)
@[simp] theorem z8R (n:Int):cvV .u64 (i64 n)=u64 (UInt64.ofInt n):=z3c (by
 show IntKind.u64.wrap n=_
 rw[show(UInt64.ofInt n).toNat=(n% 18446744073709551616).toNat from z3l n]
 exact(z9g n 18446744073709551616 (by decide)).symm)
@[simp] theorem z7T (n:Int):cvV .u32 (i64 n)=u32 (UInt32.ofInt n):=z5d (by
 show IntKind.u32.wrap n=_
 rw[show(UInt32.ofInt n).toNat=(n% 4294967296).toNat from z6t n]
 exact(z9g n 4294967296 (by decide)).symm)
@[simp] theorem z4Y (x:UInt8):cvV .i64 (u8 x)=i64 x.toNat:=by
 show z0a.lit (.int .i64 (W x.toNat))=_
 rw[z6G (by omega) (by have:=x.toNat_lt;omega)]
 rfl
@[simp] theorem z0V (x:UInt32):cvV .i64 (u32 x)=i64 x.toNat:=by
 show z0a.lit (.int .i64 (W x.toNat))=_
 rw[z6G (by omega) (by have:=x.toNat_lt;omega)]
 rfl
@[simp] theorem z7P (x:UInt64):cvV .i64 (u64 x)=i64 (W x.toNat):=rfl
@[simp] theorem z4P (x:Int):cvV .i64 (i64 x)=i64 (W x):=rfl
end Go.Abs
end

section
namespace Go.Abs

def z5j (n:Nat):List UInt8:=List.replicate n 0
def z9ua (n:Nat):List UInt32:=List.replicate n 0
@[simp] theorem z0E (n:Nat):(z5j n).length=n:=by simp[z5j]
@[simp] theorem z3Zc (n:Nat):(z9ua n).length=n:=by simp[z9ua]

/-! ### Lists of bytes and of words as cells -/
@[simp] theorem z1Q (l:List UInt8):(bys l).length=l.length:=by simp[bys]
@[simp] theorem z5O (l:List UInt32):(z7g l).length=l.length:=by simp[z7g]
@[simp] theorem z8oa:bys []=[]:=rfl
@[simp] theorem z4ca:z7g []=[]:=rfl
theorem z4Na (l m:List UInt8):bys (l++m)=bys l++bys m:=by simp[bys]
theorem z8pa (l m:List UInt8):bys l++bys m=bys (l++m):=(z4Na l m).symm
theorem z7pa (l:List UInt8) (x:UInt8):bys l++[u8 x]=bys (l++[x]):=by simp[bys]
@[simp] theorem z0ea (l:List UInt8) (n:Nat):(bys l).take n=bys (l.take n):=by simp[bys]
@[simp] theorem z5ea (l:List UInt8) (n:Nat):(bys l).drop n=bys (l.drop n):=by simp[bys]
@[simp] theorem z79 (l:List UInt8):(bys l).tail=bys l.tail:=by cases l<;>rfl
@[simp] theorem z1la (l:List UInt8):z3i l=bys l:=rfl
theorem z6f {P:z0a→Prop} {l:List UInt8} (h:∀x,P (u8 x)):∀c∈bys l,P c:=fun c hc=>by
 simp only[bys,List.mem_map] at hc
 obtain⟨x,_,rfl⟩:=hc
 exact h x
theorem z5h {P:z0a→Prop} {l:List UInt32} (h:∀x,P (u32 x)):∀c∈z7g l,P c:=fun c hc=>by
 simp only[z7g,List.mem_map] at hc
 obtain⟨x,_,rfl⟩:=hc
 exact h x
@[simp] theorem z49 (l:List UInt8):(∀c∈bys l,z8a c)↔True:=iff_true_intro (z6f (by simp))
@[simp] theorem z0na (l:List UInt8):(∀c∈bys l,z5b c=false)↔True:=iff_true_intro (z6f (by simp))
@[simp] theorem z1ea (l:List UInt8):(∀c∈bys l,z0b c=true)↔True:=iff_true_intro (z6f (by simp))
@[simp] theorem z8w (l:List UInt8):(∀c∈bys l,z0b c=true∧z8a c)↔True:=iff_true_intro (z6f (by simp))
@[simp] theorem z9C (l:List UInt8):(∀c∈bys l,z8a c∧z5b c=false)↔True:=iff_true_intro (z6f (by simp))
@[simp] theorem z8da (l:List UInt8):(∀c∈bys l,z28 .u8 c)↔True:=iff_true_intro (z6f (by simp))
@[simp] theorem z61 (l:List UInt32):(∀c∈z7g l,z8a c)↔True:=iff_true_intro (z5h (by simp))
@[simp] theorem z2ba (l:List UInt32):(∀c∈z7g l,z5b c=false)↔True:=iff_true_intro (z5h (by simp))
@[simp] theorem z81 (l:List UInt32):(∀c∈z7g l,z0b c=true)↔True:=iff_true_intro (z5h (by simp))
theorem z2j {l:List z0a} (h:∀c∈l,z0b c=true):z8b l=true:=(z4i l).2 h
@[simp] theorem z71 (l:List UInt8):z8b (bys l)=true:=z2j (z6f (by simp))
@[simp] theorem z3T (l:List UInt32):z8b (z7g l)=true:=z2j (z5h (by simp))
attribute [simp] z8m
@[simp] theorem z9s (l m:List z0a):z7a (l++m)=(z7a l&&z7a m):=by induction l<;>simp_all [z7a,Bool.and_assoc]
@[simp] theorem z2F (l:List UInt8):z7a (bys l)=true:=by induction l<;>simp_all [bys,z7a]
@[simp] theorem z6B (l:List UInt32):z7a (z7g l)=true:=by induction l<;>simp_all [z7g,z7a]
attribute [simp] z2h
@[simp] theorem z22 (l:List UInt8):z6b (bys l)=[]:=by induction l<;>simp_all [bys,z6b]
@[simp] theorem z1T (l:List UInt32):z6b (z7g l)=[]:=by induction l<;>simp_all [z7g,z6b]

@[simp] theorem z6U (x y:UInt8):z9c .sub (u8 x) (u8 y)=u8 (x-y):=z6g (by
 show IntKind.u8.wrap ((x.toNat:Int)-y.toNat)=_
 rw[UInt8.toNat_sub]
 have:=x.toNat_lt
 have:=y.toNat_lt
 unfold IntKind.wrap IntKind.bits IntKind.signed
 simp only[Bool.false_and,Bool.false_eq_true,if_false]
 omega)
@[simp] theorem z8Q (x y:UInt8):z9c .quo (u8 x) (u8 y)=u8 (x/y):=z6g (by
 show IntKind.u8.wrap ((x.toNat:Int).tdiv y.toNat)=_
 rw[Int.tdiv_eq_ediv_of_nonneg (by omega),←Int.natCast_ediv,z9h,UInt8.toNat_div,Nat.mod_eq_of_lt]
 exact Nat.lt_of_le_of_lt (Nat.div_le_self _ _) x.toNat_lt)
@[simp] theorem z5R (x y:UInt8):z9c .rem (u8 x) (u8 y)=u8 (x% y):=z6g (by
 show((x.toNat:Int).tmod y.toNat)=_
 rw[UInt8.toNat_mod]
 rfl)
@[simp] theorem z0G (x y:UInt8):z3a .quo (u8 x) (u8 y)=(y≠0):=by
 simp only[z3a,u8,true_and,ne_eq,Int.natCast_eq_zero,←UInt8.toNat_inj]
 rfl
@[simp] theorem z4F (x y:UInt8):z3a .rem (u8 x) (u8 y)=(y≠0):=by
 simp only[z3a,u8,true_and,ne_eq,Int.natCast_eq_zero,←UInt8.toNat_inj]
 rfl
@[simp] theorem z0W (x y:UInt8):z9c .lss (u8 x) (u8 y)=bo (decide (x<y)):=by
 show z0a.lit (.bool (decide ((x.toNat:Int)<y.toNat)))= .lit (.bool _)
 congr 2
 simp[UInt8.lt_iff_toNat_lt]
@[simp] theorem z2T (x y:UInt8):z9c .gtr (u8 x) (u8 y)=bo (decide (y<x)):=by
 show z0a.lit (.bool (decide ((x.toNat:Int)>y.toNat)))= .lit (.bool _)
 congr 2
 simp[UInt8.lt_iff_toNat_lt]
@[simp] theorem z4O (x y:UInt64):z9c .neq (u64 x) (u64 y)=bo (x !=y):=by
 show z0a.lit (.bool ((x.toNat:Int) !=y.toNat))= .lit (.bool _)
 congr 2
 rw[Bool.eq_iff_iff]
 simp only[beq_iff_eq,bne_iff_ne,ne_eq,←UInt64.toNat_inj]
 omega
def z2ed (x y:Int):Int:=W (BitVec.ofInt 64 x&&&BitVec.ofInt 64 y).toNat
@[simp] theorem z9O (x y:Int):z9c .and (i64 x) (i64 y)=i64 (z2ed x y):=rfl

theorem dT {p:Prop} [Decidable p] (h:p):decide p=true:=decide_eq_true h
theorem dF {p:Prop} [Decidable p] (h:¬p):decide p=false:=decide_eq_false h

/-! ### What values are -/
@[simp] theorem z7Z:dem .undef= .undef:=rfl
@[simp] theorem z8ma (cs:List z0a):dem (.agg cs)= .agg cs:=rfl
@[simp] theorem z9ka (cs:List z0a):dem (.tup cs)= .tup cs:=rfl
@[simp] theorem z2aa (e:Nat) (nl:Option Bool) (n:Nat) (cs rest:List z0a):dem (.otup e nl n cs rest)= .tup (.sl .plain nl n cs::rest):=rfl
@[simp] theorem z5T (e:Nat) (nl:Option Bool) (n:Nat) (cs rest:List z0a):z0b (.otup e nl n cs rest)=z8b rest:=rfl
@[simp] theorem z0da (p:List z0a) (e:Nat) (nl:Option Bool) (n:Nat) (cs rest:List z0a):dem (.oagg p e nl n cs rest)= .agg (p++ .sl .plain nl n cs::rest):=rfl
@[simp] theorem z8S (p:List z0a) (e:Nat) (nl:Option Bool) (n:Nat) (cs rest:List z0a):z0b (.oagg p e nl n cs rest)=(z8b p&&z8b rest):=rfl
@[simp] theorem z7Y (p:List z0a) (e:Nat) (nl:Option Bool) (n:Nat) (cs rest:List z0a):z3d (.oagg p e nl n cs rest)=z6b p++z6b rest:=rfl
@[simp] theorem z45 (e:Nat) (nl:Option Bool) (n:Nat) (cs rest:List z0a):z3d (.otup e nl n cs rest)=z6b rest:=rfl
@[simp] theorem dem_bp (i o:Nat):dem (.bp i o)= .bp i o:=rfl
@[simp] theorem dem_bv (i e o n c:Nat):dem (.bv i e o n c)= .bv i e o n c:=rfl
@[simp] theorem dem_ep (cs:List z0a):dem (.ep cs)= .ep cs:=rfl
@[simp] theorem dem_fn (f:Nat) (x y:List z0a):dem (.fn f x y)= .fn f x y:=rfl
@[simp] theorem z5ga (v:Value):dem (.lit v)= .lit v:=rfl
@[simp] theorem z1ha (e:Nat) (nl:Option Bool) (n:Nat) (cs:List z0a):dem (.sl (.own e) nl n cs)= .sl .plain nl n cs:=rfl
@[simp] theorem z70 (nl:Option Bool) (n:Nat) (cs:List z0a):dem (.sl .plain nl n cs)= .sl .plain nl n cs:=rfl
@[simp] theorem z8ea (nl:Option Bool) (n:Nat) (cs:List z0a):dem (.sl .clip nl n cs)= .sl .clip nl n cs:=rfl
@[simp] theorem z9T (cs:List z0a):z8a (.agg cs)=False:=rfl
@[simp] theorem z76 (m:z4r) (nl:Option Bool) (n:Nat) (cs:List z0a):z8a (.sl m nl n cs)=True:=rfl
@[simp] theorem z64 (i o:Nat):z8a (.bp i o)=True:=rfl
@[simp] theorem z75 (i e o n c:Nat):z8a (.bv i e o n c)=True:=rfl
@[simp] theorem z16 (f:Nat) (x y:List z0a):z8a (.fn f x y)=True:=rfl
@[simp] theorem z92 (cs:List z0a):z8a (.ep cs)=True:=rfl
@[simp] theorem z8V:z8a (.lit (.slice none 0 0))=True:=rfl
@[simp] theorem z52 (cs:List z0a):z0b (.agg cs)=z8b cs:=rfl
@[simp] theorem z0Y (cs:List z0a):z0b (.tup cs)=z8b cs:=rfl
@[simp] theorem z19 (m:z4r) (nl:Option Bool) (n:Nat) (cs:List z0a):z0b (.sl m nl n cs)=true:=by cases m<;>rfl
@[simp] theorem z1fa (cs:List z0a):z0b (.ep cs)=true:=rfl
@[simp] theorem z0ba (i o:Nat):z0b (.bp i o)=false:=rfl
@[simp] theorem z2da (i e o n c:Nat):z0b (.bv i e o n c)=false:=rfl
@[simp] theorem z3ea (f:Nat) (x y:List z0a):z0b (.fn f x y)=(z8b x&&z8b y):=rfl
@[simp] theorem z50:z0b (.lit (.slice none 0 0))=true:=rfl
@[simp] theorem z8H (cs:List z0a):z6c (.agg cs)=z7a cs:=rfl
@[simp] theorem z2P (cs:List z0a):z6c (.tup cs)=z7a cs:=rfl
@[simp] theorem z3N:z6c (.lit (.slice none 0 0))=true:=rfl
@[simp] theorem z7S (m:z4r) (nl:Option Bool) (n:Nat) (cs:List z0a):z6c (.sl m nl n cs)=false:=by cases m<;>rfl
@[simp] theorem z8aa (cs:List z0a):z3d (.agg cs)=z6b cs:=rfl
@[simp] theorem z99 (cs:List z0a):z3d (.tup cs)=z6b cs:=rfl
@[simp] theorem z9ha (m:z4r) (nl:Option Bool) (n:Nat) (cs:List z0a):z3d (.sl m nl n cs)=[]:=by cases m<;>rfl
@[simp] theorem z1oa (i o:Nat):z3d (.bp i o)=[i]:=rfl
@[simp] theorem z1ja (i e o n c:Nat):z3d (.bv i e o n c)=[i]:=rfl
@[simp] theorem z8ia (cs:List z0a):z3d (.ep cs)=[]:=rfl
@[simp] theorem z6ia (f:Nat) (x y:List z0a):z3d (.fn f x y)=z6b x++z6b y:=rfl
@[simp] theorem z6R:z3d .undef=[]:=rfl
@[simp] theorem z0ca (v:Value):z3d (.lit v)=[]:=rfl
@[simp] theorem z6P (e:Nat) (nl:Option Bool) (n:Nat) (cs:List z0a):z5b (.sl (.own e) nl n cs)=true:=rfl
@[simp] theorem z2G (nl:Option Bool) (n:Nat) (cs:List z0a):z5b (.sl .plain nl n cs)=false:=rfl
@[simp] theorem z7N (nl:Option Bool) (n:Nat) (cs:List z0a):z5b (.sl .clip nl n cs)=false:=rfl
@[simp] theorem z26 (i o:Nat):z5b (.bp i o)=false:=rfl
@[simp] theorem z11 (i e o n c:Nat):z5b (.bv i e o n c)=false:=rfl
@[simp] theorem z3Q (cs:List z0a):z4c (.agg cs)=cs:=rfl
@[simp] theorem z5X (m:z4r) (nl:Option Bool) (n:Nat) (cs:List z0a):z4c (.sl m nl n cs)=[.sl m nl n cs]:=rfl
@[simp] theorem z7R:z4c (.lit (.slice none 0 0))=[.lit (.slice none 0 0)]:=rfl
@[simp] theorem z10 (i o:Nat):z4c (.bp i o)=[.bp i o]:=rfl
@[simp] theorem z7X (f:Nat) (x y:List z0a):z4c (.fn f x y)=[.fn f x y]:=rfl
@[simp] theorem z6ka (m:z4r) (nl:Option Bool) (n:Nat) (cs:List z0a):z7e (.sl m nl n cs)=n:=rfl
@[simp] theorem z5ka (i e o n c:Nat):z7e (.bv i e o n c)=n:=rfl
@[simp] theorem z18:z7e (.lit (.slice none 0 0))=0:=rfl
@[simp] theorem z30 (bx:List z0a) (m:z4r) (nl:Option Bool) (n:Nat) (cs:List z0a):z0c bx (.sl m nl n cs)=cs:=rfl
@[simp] theorem z24 (bx:List z0a) (i e o n c:Nat):z0c bx (.bv i e o n c)=(bx.drop o).take (n*e):=rfl
@[simp] theorem z2Q (bx:List z0a):z0c bx (.lit (.slice none 0 0))=[]:=rfl
@[simp] theorem z2oa (m:z4r) (nl:Option Bool) (n:Nat) (cs:List z0a):z4aa (.sl m nl n cs)=True:=rfl
@[simp] theorem z9ma (i e o n c:Nat):z4aa (.bv i e o n c)=True:=rfl
@[simp] theorem z29:z4aa (.lit (.slice none 0 0))=True:=rfl
@[simp] theorem okS_sl (esz:Nat) (b:Option Nat) (bx:Option (List z0a)) (m:z4r) (nl:Option Bool) (n:Nat) (cs:List z0a):okS esz b bx (.sl m nl n cs)=(cs.length=n*esz):=rfl
@[simp] theorem okS_bv (esz:Nat) (b:Option Nat) (bx:Option (List z0a)) (i e o n c:Nat):okS esz b bx (.bv i e o n c)=(b=some i∧e=esz∧(∃cs,bx=some cs∧o+n*e≤cs.length)):=rfl
@[simp] theorem z8ka (esz:Nat) (b:Option Nat) (bx:Option (List z0a)):okS esz b bx (.lit (.slice none 0 0))=True:=rfl
@[simp] theorem z3fa (f:Nat→Option (List z0a)) (b:Option Nat) (n i o:Nat):z1o f b n (.bp i o)=(b=some i∧∃cs,f i=some cs∧o+n≤cs.length):=rfl
@[simp] theorem z58 (f:Nat→Option (List z0a)) (b:Option Nat) (n:Nat) (cs:List z0a):z1o f b n (.ep cs)=(b=none∧n≤cs.length):=rfl
@[simp] theorem z6J (f:Nat→Option (List z0a)) (b:Option Nat) (i o:Nat):z6d f b (.bp i o)=(bxl f b).drop o:=rfl
@[simp] theorem z8N (f:Nat→Option (List z0a)) (b:Option Nat) (cs:List z0a):z6d f b (.ep cs)=cs:=rfl
@[simp] theorem z2O (v:z0a):z7p none v=[dem v]:=rfl
@[simp] theorem z1J (n:Nat) (v:z0a):z7p (some n) v=z4c v:=rfl
@[simp] theorem z48 (v:z0a):isK none v=z8a v:=rfl
@[simp] theorem z9ea (n:Nat) (cs:List z0a):isK (some n) (.agg cs)=(cs.length=n∧(∀c∈cs,z8a c)∧(∀c∈cs,z5b c=false)):=rfl
@[simp] theorem z4X (f:Nat) (x y as:List z0a):z9f (.fn f x y) as=x++as++y:=rfl
@[simp] theorem z43 (f:Nat→List z0a) (x:UInt8):z1k f (u8 x)=u8 x:=rfl
@[simp] theorem z88 (f:Nat→List z0a) (x:UInt8):z5e f (u8 x)=u8 x:=rfl
@[simp] theorem z66 (f:Nat→List z0a) (x:UInt32):z5e f (u32 x)=u32 x:=rfl
@[simp] theorem z34 (f:Nat→List z0a) (x:UInt64):z5e f (u64 x)=u64 x:=rfl
@[simp] theorem z20 (f:Nat→List z0a) (x:Int):z5e f (i64 x)=i64 x:=rfl
@[simp] theorem z69 (f:Nat→List z0a) (x:Bool):z5e f (bo x)=bo x:=rfl
@[simp] theorem z0fa (f:Nat→List z0a) (x:List UInt8):z5e f (st x)=st x:=rfl
@[simp] theorem z13 (f:Nat→List z0a) (x:List z0a):z5e f (.agg x)= .agg x:=rfl
@[simp] theorem z21 (f:Nat→List z0a):z5e f (.lit (.slice none 0 0))= .sl .plain (some true) 0 []:=rfl
@[simp] theorem z44 (f:Nat→List z0a) (e:Nat) (nl:Option Bool) (n:Nat) (cs:List z0a):z5e f (.sl (.own e) nl n cs)= .sl .plain nl n cs:=rfl
@[simp] theorem z5I (f:Nat→List z0a) (nl:Option Bool) (n:Nat) (cs:List z0a):z5e f (.sl .plain nl n cs)= .sl .plain nl n cs:=rfl
@[simp] theorem z3R (f:Nat→List z0a) (nl:Option Bool) (n:Nat) (cs:List z0a):z5e f (.sl .clip nl n cs)= .sl .plain nl n cs:=rfl
@[simp] theorem z5fa (f:Nat→List z0a) (i o:Nat):z5e f (.bp i o)= .ep ((f i).drop o):=rfl
@[simp] theorem z3ca (f:Nat→List z0a) (i e o n c:Nat):z5e f (.bv i e o n c)= .sl .plain (some false) n (((f i).drop o).take (n*e)):=rfl
@[simp] theorem z77 (f:Nat→List z0a) (cs:List z0a):z5e f (.ep cs)= .ep cs:=rfl
@[simp] theorem z89 (f:Nat→List z0a) (g:Nat) (x y:List z0a):z5e f (.fn g x y)= .fn g (x.map (z1k f)) (y.map (z1k f)):=rfl
@[simp] theorem z67 (bs:List Nat) (f:Nat→Option (List z0a)) (x:UInt8):z0d bs f (u8 x)=True:=by simp[z0d,z8e,u8,z0b]
@[simp] theorem z8Y (bs:List Nat) (f:Nat→Option (List z0a)) (x:UInt32):z0d bs f (u32 x)=True:=by simp[z0d,z8e,u32,z0b]
@[simp] theorem z3Y (bs:List Nat) (f:Nat→Option (List z0a)) (x:UInt64):z0d bs f (u64 x)=True:=by simp[z0d,z8e,u64,z0b]
@[simp] theorem z04 (bs:List Nat) (f:Nat→Option (List z0a)) (x:Int):z0d bs f (i64 x)=True:=by simp[z0d,z8e,i64,z0b]
@[simp] theorem z4fa (bs:List Nat) (f:Nat→Option (List z0a)) (x:Bool):z0d bs f (bo x)=True:=by simp[z0d,z8e,bo,z0b]
@[simp] theorem z98 (bs:List Nat) (f:Nat→Option (List z0a)) (x:List UInt8):z0d bs f (st x)=True:=by simp[z0d,z8e,st,z0b]
@[simp] theorem z84 (bs:List Nat) (f:Nat→Option (List z0a)) (x:List z0a):z0d bs f (.agg x)=(z8b x=true):=rfl
@[simp] theorem z5aa (bs:List Nat) (f:Nat→Option (List z0a)) (m:z4r) (nl:Option Bool) (n:Nat) (cs:List z0a):z0d bs f (.sl m nl n cs)=True:=by simp[z0d,z8e]
@[simp] theorem z1X (bs:List Nat) (f:Nat→Option (List z0a)):z0d bs f (.lit (.slice none 0 0))=True:=by simp[z0d,z8e]
@[simp] theorem z59 (bs:List Nat) (f:Nat→Option (List z0a)) (i o:Nat):z0d bs f (.bp i o)=(i∈bs∧∃cs,f i=some cs∧o≤cs.length):=rfl
@[simp] theorem z6ea (bs:List Nat) (f:Nat→Option (List z0a)) (i e o n c:Nat):z0d bs f (.bv i e o n c)=(i∈bs∧∃cs,f i=some cs∧o+n*e≤cs.length):=rfl
@[simp] theorem z6aa (bs:List Nat) (f:Nat→Option (List z0a)) (cs:List z0a):z0d bs f (.ep cs)=True:=by simp[z0d,z8e]

/-! ### Whether operations may go ahead -/
@[simp] theorem z9N (x:UInt32) (n:Int):z3a .shr (u32 x) (i64 n)=(0≤n):=rfl
@[simp] theorem z1I (x:UInt32) (n:Int):z3a .shl (u32 x) (i64 n)=(0≤n):=rfl
@[simp] theorem z0K (x:UInt64) (n:Int):z3a .shr (u64 x) (i64 n)=(0≤n):=rfl
@[simp] theorem z0P (x:UInt64) (n:Int):z3a .shl (u64 x) (i64 n)=(0≤n):=rfl
@[simp] theorem z2D (x:UInt32) (n:UInt64):z3a .shr (u32 x) (u64 n)=True:=by simp[z3a,u32,u64]
@[simp] theorem z3D (x:UInt32) (n:UInt64):z3a .shl (u32 x) (u64 n)=True:=by simp[z3a,u32,u64]
@[simp] theorem z3E (x:UInt64) (n:UInt64):z3a .shr (u64 x) (u64 n)=True:=by simp[z3a,u64]
@[simp] theorem z9G (x:UInt64) (n:UInt64):z3a .shl (u64 x) (u64 n)=True:=by simp[z3a,u64]
@[simp] theorem z60d (x y:Int):z3a .quo (i64 x) (i64 y)=(y≠0):=by simp[z3a,i64]
@[simp] theorem z6Z (x y:Int):z3a .rem (i64 x) (i64 y)=(y≠0):=by simp[z3a,i64]
@[simp] theorem z6I (x y:UInt64):z3a .rem (u64 x) (u64 y)=(y≠0):=by
 simp only[z3a,u64,true_and,ne_eq,Int.natCast_eq_zero,←UInt64.toNat_inj]
 rfl
@[simp] theorem z9F (x y:UInt8):z3a .add (u8 x) (u8 y)=True:=by simp[z3a,u8]
@[simp] theorem z8z (x y:UInt32):z3a .add (u32 x) (u32 y)=True:=by simp[z3a,u32]
@[simp] theorem z5x (x y:UInt64):z3a .add (u64 x) (u64 y)=True:=by simp[z3a,u64]
@[simp] theorem z7x (x y:Int):z3a .add (i64 x) (i64 y)=True:=by simp[z3a,i64]
@[simp] theorem z3H (x y:UInt8):z3a .sub (u8 x) (u8 y)=True:=by simp[z3a,u8]
@[simp] theorem z7z (x y:UInt32):z3a .sub (u32 x) (u32 y)=True:=by simp[z3a,u32]
@[simp] theorem z4x (x y:UInt64):z3a .sub (u64 x) (u64 y)=True:=by simp[z3a,u64]
@[simp] theorem z3B (x y:Int):z3a .sub (i64 x) (i64 y)=True:=by simp[z3a,i64]
@[simp] theorem z8E (x y:UInt8):z3a .mul (u8 x) (u8 y)=True:=by simp[z3a,u8]
@[simp] theorem z5w (x y:UInt32):z3a .mul (u32 x) (u32 y)=True:=by simp[z3a,u32]
@[simp] theorem z8A (x y:UInt64):z3a .mul (u64 x) (u64 y)=True:=by simp[z3a,u64]
@[simp] theorem z9B (x y:Int):z3a .mul (i64 x) (i64 y)=True:=by simp[z3a,i64]
@[simp] theorem z3F (x y:UInt8):z3a .and (u8 x) (u8 y)=True:=by simp[z3a,u8]
@[simp] theorem z3x (x y:UInt32):z3a .and (u32 x) (u32 y)=True:=by simp[z3a,u32]
@[simp] theorem z8x (x y:UInt64):z3a .and (u64 x) (u64 y)=True:=by simp[z3a,u64]
@[simp] theorem z2x (x y:Int):z3a .and (i64 x) (i64 y)=True:=by simp[z3a,i64]
@[simp] theorem z7H (x y:UInt8):z3a .or (u8 x) (u8 y)=True:=by simp[z3a,u8]
@[simp] theorem z7C (x y:UInt32):z3a .or (u32 x) (u32 y)=True:=by simp[z3a,u32]
@[simp] theorem z7D (x y:UInt64):z3a .or (u64 x) (u64 y)=True:=by simp[z3a,u64]
@[simp] theorem z0D (x y:Int):z3a .or (i64 x) (i64 y)=True:=by simp[z3a,i64]
@[simp] theorem z0F (x y:UInt8):z3a .xor (u8 x) (u8 y)=True:=by simp[z3a,u8]
@[simp] theorem z9w (x y:UInt32):z3a .xor (u32 x) (u32 y)=True:=by simp[z3a,u32]
@[simp] theorem z0z (x y:UInt64):z3a .xor (u64 x) (u64 y)=True:=by simp[z3a,u64]
@[simp] theorem z0x (x y:Int):z3a .xor (i64 x) (i64 y)=True:=by simp[z3a,i64]
@[simp] theorem z5G (x y:UInt8):z3a .eql (u8 x) (u8 y)=True:=by simp[z3a,u8]
@[simp] theorem z3y (x y:UInt32):z3a .eql (u32 x) (u32 y)=True:=by simp[z3a,u32]
@[simp] theorem z3A (x y:UInt64):z3a .eql (u64 x) (u64 y)=True:=by simp[z3a,u64]
@[simp] theorem z7w (x y:Int):z3a .eql (i64 x) (i64 y)=True:=by simp[z3a,i64]
@[simp] theorem z8C (x y:UInt8):z3a .neq (u8 x) (u8 y)=True:=by simp[z3a,u8]
@[simp] theorem z7y (x y:UInt32):z3a .neq (u32 x) (u32 y)=True:=by simp[z3a,u32]
@[simp] theorem z6A (x y:UInt64):z3a .neq (u64 x) (u64 y)=True:=by simp[z3a,u64]
@[simp] theorem z2C (x y:Int):z3a .neq (i64 x) (i64 y)=True:=by simp[z3a,i64]
@[simp] theorem z5C (x y:UInt8):z3a .lss (u8 x) (u8 y)=True:=by simp[z3a,u8]
@[simp] theorem z4B (x y:UInt32):z3a .lss (u32 x) (u32 y)=True:=by simp[z3a,u32]
@[simp] theorem z6w (x y:UInt64):z3a .lss (u64 x) (u64 y)=True:=by simp[z3a,u64]
@[simp] theorem z8B (x y:Int):z3a .lss (i64 x) (i64 y)=True:=by simp[z3a,i64]
@[simp] theorem z1G (x y:UInt8):z3a .leq (u8 x) (u8 y)=True:=by simp[z3a,u8]
@[simp] theorem z5A (x y:UInt32):z3a .leq (u32 x) (u32 y)=True:=by simp[z3a,u32]
@[simp] theorem z6y (x y:UInt64):z3a .leq (u64 x) (u64 y)=True:=by simp[z3a,u64]
@[simp] theorem z5B (x y:Int):z3a .leq (i64 x) (i64 y)=True:=by simp[z3a,i64]
@[simp] theorem z4E (x y:UInt8):z3a .gtr (u8 x) (u8 y)=True:=by simp[z3a,u8]
@[simp] theorem z1y (x y:UInt32):z3a .gtr (u32 x) (u32 y)=True:=by simp[z3a,u32]
@[simp] theorem z6x (x y:UInt64):z3a .gtr (u64 x) (u64 y)=True:=by simp[z3a,u64]
@[simp] theorem z7B (x y:Int):z3a .gtr (i64 x) (i64 y)=True:=by simp[z3a,i64]
@[simp] theorem z2H (x y:UInt8):z3a .geq (u8 x) (u8 y)=True:=by simp[z3a,u8]
@[simp] theorem z1z (x y:UInt32):z3a .geq (u32 x) (u32 y)=True:=by simp[z3a,u32]
@[simp] theorem z4w (x y:UInt64):z3a .geq (u64 x) (u64 y)=True:=by simp[z3a,u64]
@[simp] theorem z6z (x y:Int):z3a .geq (i64 x) (i64 y)=True:=by simp[z3a,i64]
@[simp] theorem z8D (x y:List UInt8):z3a .eql (st x) (st y)=True:=rfl
@[simp] theorem z6D (x y:List UInt8):z3a .neq (st x) (st y)=True:=rfl
@[simp] theorem z7E (x y:List UInt8):z3a .lss (st x) (st y)=True:=rfl
@[simp] theorem z9D (x y:List UInt8):z3a .leq (st x) (st y)=True:=rfl
@[simp] theorem z1E (x y:List UInt8):z3a .gtr (st x) (st y)=True:=rfl
@[simp] theorem z2E (x y:List UInt8):z3a .geq (st x) (st y)=True:=rfl
@[simp] theorem z8G (x y:List UInt8):z3a .add (st x) (st y)=(((x.length+y.length:Nat):Int)≤9223372036854775807):=rfl
@[simp] theorem z3V (x y:List UInt8):z9c .add (st x) (st y)=st (x++y):=by
 show z0a.lit (.string (ByteArray.mk x.toArray++ByteArray.mk y.toArray))=_
 rw[st]
 congr 2
@[simp] theorem z8T (x y:List UInt8):z9c .eql (st x) (st y)=bo (decide (x=y)):=by
 show z0a.lit (.bool ((ByteArray.mk x.toArray).toList==(ByteArray.mk y.toArray).toList))=_
 rw[bo,ByteArray.toList_eq,ByteArray.toList_eq]
 congr 2
 rw[Bool.eq_iff_iff]
 simp
@[simp] theorem z9Q (x y:List UInt8):z9c .neq (st x) (st y)=bo (!decide (x=y)):=by
 show z0a.lit (.bool (!((ByteArray.mk x.toArray).toList==(ByteArray.mk y.toArray).toList)))=_
 rw[bo,ByteArray.toList_eq,ByteArray.toList_eq]
 congr 2
 rw[Bool.eq_iff_iff]
 simp
@[simp] theorem z8ba (x:Int):z5S .neg (i64 x)=True:=rfl
@[simp] theorem z9ba (x:Bool):z5S .not (bo x)=True:=rfl
@[simp] theorem z9U (x:UInt32):z5S .xor (u32 x)=True:=rfl
@[simp] theorem z4T (x:UInt64):z5S .xor (u64 x)=True:=rfl

attribute [simp] lk ASt.get ASt.getB z9i z2l z8v arg bxc bxl bnd z2g z6a.W AOp.wrS z5g z1e z6b z8F z6j z8b z7a
attribute [simp] z97 z6K z7uc z1K z0X
def z5P (wr:List Nat):Nat→List z0a→List (Nat×z0a)
 |_,[]=>[]
 |i,d::ds=>if wr.contains i then z5P wr (i+1) ds else(i,d)::z5P wr (i+1) ds
def z1V (wr:List Nat):Nat→List z0a→List (Nat×z0a)
 |_,[]=>[]
 |i,d::ds=>if wr.contains i then(i,dem d)::z1V wr (i+1) ds else z1V wr (i+1) ds
theorem z6s (wr:List Nat):∀(ds:List z0a) (i:Nat),z5P wr i ds=(z4e i ds).filter fun p=> !wr.contains p.1
 |[],i=>rfl
 |d::ds,i=>by
  rw[z5P,z4e,List.filter_cons,z6s wr ds]
  show(if wr.contains i=true then _ else _)=if(!wr.contains i)=true then _ else _
  cases wr.contains i<;>rfl
theorem z7t (wr:List Nat):∀(ds:List z0a) (i:Nat),z1V wr i ds=((z4e i ds).filter fun p=>wr.contains p.1).map fun p=>(p.1,dem p.2)
 |[],i=>rfl
 |d::ds,i=>by
  rw[z1V,z4e,List.filter_cons,z7t wr ds]
  show(if wr.contains i=true then _ else _)=List.map _ (if wr.contains i=true then _ else _)
  cases wr.contains i<;>rfl
@[simp] theorem z93 (wr:List Nat) (ds:List z0a):z4H wr ds=⟨z5P wr 0 ds,z1V wr 0 ds,[]⟩:=by rw[z6s,z7t];rfl
attribute [simp] z5P z1V

@[simp] theorem z1da (E:Env) (Q:z5c→ASt→Prop) (s:ASt):awp E .skip Q s=Q .normal s:=rfl
def z1R (Q:z5c→ASt→Prop):List z0h→ASt→Prop
 |[],st=>Q .normal st
 |g::gs,st=>z9i g st∧z1R Q gs (z1b g st)
def z0R (E:Env) (keep:List Nat) (gs:List z0h) (Q:z5c→ASt→Prop):List z6a→ASt→Prop
 |[],st=>z1R Q gs (z2o keep st)
 |o::os,st=>okA E o st∧z0R E keep gs Q os (z9a E o st)
theorem z0t (Q:z5c→ASt→Prop):∀(gs:List z0h) (st:ASt),z1R Q gs st=(z6S gs st∧Q .normal (z6q gs st))
 |[],st=>by simp[z1R,z6S,z6q]
 |g::gs,st=>by simp only[z1R,z6S,z6q,z0t Q gs];exact propext and_assoc.symm
theorem z6v (E:Env) (keep:List Nat) (gs:List z0h) (Q:z5c→ASt→Prop):∀(xs:List z6a) (st:ASt),z0R E keep gs Q xs st=(z4t E xs st∧z6S gs (z2o keep (z8I E xs st))∧Q .normal (z6q gs (z2o keep (z8I E xs st))))
 |[],st=>by simp only[z0R,z4t,z8I,true_and];exact z0t Q gs _
 |o::os,st=>by simp only[z0R,z4t,z8I,z6v E keep gs Q os];exact propext and_assoc.symm
@[simp] theorem z1W (E:Env) (keep:List Nat) (gs:List z0h) (xs:List z6a) (Q:z5c→ASt→Prop) (s:ASt):
  awp E (.region keep gs xs) Q s=z0R E keep gs Q xs s:=(z6v E keep gs Q xs s).symm
def z56 (o e:List (Nat×z0a)) (b:List (Nat×Option (List z0a))) (d:Nat) (x:Eff):ASt:=⟨o,(d,x.val)::(x.sl++e),x.bx++b⟩
def put0 (o e:List (Nat×z0a)) (b:List (Nat×Option (List z0a))) (x:Eff):ASt:=⟨o,x.sl++e,x.bx++b⟩
def z6o (o e:List (Nat×z0a)) (b:List (Nat×Option (List z0a))) (d:Nat) (t:Bool) (x:Eff):ASt:=if t then z56 o e b d x else⟨o,(d,z7j)::e,b⟩
@[simp] theorem z4oa (o e:List (Nat×z0a)) (b:List (Nat×Option (List z0a))) (d:Nat) (v:z0a) (sl:List (Nat×z0a)) (bx:List (Nat×Option (List z0a))):z56 o e b d ⟨v,sl,bx⟩=⟨o,(d,v)::(sl++e),bx++b⟩:=rfl
@[simp] theorem z0ia (o e:List (Nat×z0a)) (b:List (Nat×Option (List z0a))) (v:z0a) (sl:List (Nat×z0a)) (bx:List (Nat×Option (List z0a))):put0 o e b ⟨v,sl,bx⟩=⟨o,sl++e,bx++b⟩:=rfl
@[simp] theorem z2fa (o e:List (Nat×z0a)) (b:List (Nat×Option (List z0a))) (d:Nat) (x:Eff):z6o o e b d true x=z56 o e b d x:=rfl
@[simp] theorem z5da (o e:List (Nat×z0a)) (b:List (Nat×Option (List z0a))) (d:Nat) (x:Eff):z6o o e b d false x=⟨o,(d,z7j)::e,b⟩:=rfl
@[simp] theorem z73 (E:Env) (d:Nat) (op:AOp) (o e:List (Nat×z0a)) (b:List (Nat×Option (List z0a))):
  z9a E ⟨some d,none,op⟩ ⟨o,e,b⟩=z56 o e b d (eff E (ASt.get ⟨o,e,b⟩) (ASt.getB ⟨o,e,b⟩) op):=rfl
@[simp] theorem z74 (E:Env) (op:AOp) (o e:List (Nat×z0a)) (b:List (Nat×Option (List z0a))):
  z9a E ⟨none,none,op⟩ ⟨o,e,b⟩=put0 o e b (eff E (ASt.get ⟨o,e,b⟩) (ASt.getB ⟨o,e,b⟩) op):=rfl
@[simp] theorem z8U (E:Env) (d s:Nat) (w:Bool) (op:AOp) (o e:List (Nat×z0a)) (b:List (Nat×Option (List z0a))):
  z9a E ⟨some d,some (s,w),op⟩ ⟨o,e,b⟩=z6o o e b d (z3G (ASt.get ⟨o,e,b⟩ s) w) (eff E (ASt.get ⟨o,e,b⟩) (ASt.getB ⟨o,e,b⟩) op):=by
 simp only[z9a,z6o,z56]
 generalize z3G (ASt.get ⟨o,e,b⟩ s) w=t
 cases t<;>simp
@[simp] theorem z3na (x w:Bool):z3G (bo x) w=(x==w):=rfl
@[simp] theorem z4Ld (w:Bool):z3G z7j w=false:=rfl
@[simp] theorem okG_bo (x:Bool):okG (bo x)=True:=eq_true (.inl trivial)
@[simp] theorem z3ba:okG z7j=True:=eq_true (.inr rfl)
@[simp] theorem z7ca:dem z7j=z7j:=rfl
@[simp] theorem z91:z3d z7j=[]:=rfl
attribute [simp] z1R z0R
def z3n (f:Nat→z0a):List Nat→List (Nat×z0a)
 |[]=>[]
 |s::l=>(s,f s)::z3n f l
def z9u (f:Nat→Option (List z0a)):List Nat→List (Nat×Option (List z0a))
 |[]=>[]
 |s::l=>(s,f s)::z9u f l
def z8n (ids:List Nat):List (Nat×Option (List z0a))→List (Nat×Option (List z0a))
 |[]=>[]
 |p::l=>if ids.contains p.1 then z8n ids l else p::z8n ids l
theorem z4l (f:Nat→z0a):∀l,z3n f l=l.map fun s=>(s,f s)
 |[]=>rfl
 |s::l=>by rw[z3n,z4l f l];rfl
theorem z6p (f:Nat→Option (List z0a)):∀l,z9u f l=l.map fun s=>(s,f s)
 |[]=>rfl
 |s::l=>by rw[z9u,z6p f l];rfl
theorem z1l (ids:List Nat):∀l,z8n ids l=l.filter fun p=> !ids.contains p.1
 |[]=>rfl
 |p::l=>by
  rw[z8n,z1l ids l,List.filter_cons]
  cases ids.contains p.1<;>rfl
attribute [simp] z3n z9u z8n
@[simp] theorem z4C (keep:List Nat) (o e:List (Nat×z0a)) (b:List (Nat×Option (List z0a))):z2o keep ⟨o,e,b⟩=⟨o,z3n (ASt.get ⟨o,e,b⟩) keep,b⟩:=by rw[z4l];rfl
@[simp] theorem z7ga (ids:List Nat) (o e:List (Nat×z0a)) (b:List (Nat×Option (List z0a))):z1b (.norm ids) ⟨o,e,b⟩=⟨o,e,z9u (ASt.getB ⟨o,e,b⟩) ids⟩:=by rw[z6p];rfl
@[simp] theorem z5na (ids:List Nat) (o e:List (Nat×z0a)) (b:List (Nat×Option (List z0a))):z1b (.drop ids) ⟨o,e,b⟩=⟨o,e,z8n ids b⟩:=by rw[z1l];rfl
def z0r (s:Nat):List (Nat×z0a)→List (Nat×z0a)
 |[]=>[]
 |(k,v)::l=>if k=s then z0r s l else(k,v)::z0r s l
theorem z4p (s:Nat):∀l,z0r s l=l.filter fun p=>decide (p.1≠s)
 |[]=>rfl
 |(k,v)::l=>by
  rw[z0r,z4p s l,List.filter_cons]
  by_cases h:k=s<;>simp[h]
attribute [simp] z0r
@[simp] theorem z38 (s:Nat) (o e:List (Nat×z0a)) (b:List (Nat×Option (List z0a))):z1b (.unorg s) ⟨o,e,b⟩=⟨z0r s o,(s,ASt.get ⟨o,e,b⟩ s)::e,b⟩:=by rw[z4p];rfl
def z3L (b i:Nat) (x:Option (List z0a)) (box:List (Nat×Option (List z0a))):List (Nat×Option (List z0a)):=match x with|some bs=>(b,some (bs.set i .undef))::box|none=>box
@[simp] theorem z6T (b i:Nat) (bs:List z0a) (box:List (Nat×Option (List z0a))):z3L b i (some bs) box=(b,some (bs.set i .undef))::box:=rfl
@[simp] theorem z8ca (b i:Nat) (o e:List (Nat×z0a)) (box:List (Nat×Option (List z0a))):z1b (.hideB b i) ⟨o,e,box⟩=⟨o,e,z3L b i (ASt.getB ⟨o,e,box⟩ b) box⟩:=by
 simp only[z1b,z3L]
 split<;>simp_all
def reL (b i:Nat) (r:Option Nat) (x:Option (List z0a)) (box:List (Nat×Option (List z0a))):List (Nat×Option (List z0a)):=match x with|some bs=>(b,some (bs.set i (z1m r (bs.getD i .undef))))::box|none=>box
@[simp] theorem z68 (b i:Nat) (r:Option Nat) (bs:List z0a) (box:List (Nat×Option (List z0a))):reL b i r (some bs) box=(b,some (bs.set i (z1m r (bs.getD i .undef))))::box:=rfl
@[simp] theorem reB_mk (b i:Nat) (r:Option Nat) (o e:List (Nat×z0a)) (box:List (Nat×Option (List z0a))):z1b (.reB b i r) ⟨o,e,box⟩=⟨o,e,reL b i r (ASt.getB ⟨o,e,box⟩ b) box⟩:=by
 simp only[z1b,reL]
 split<;>simp_all
@[simp] theorem z9I (c:z0a):z1m none c=dem c:=rfl
@[simp] theorem z2W (e:Nat):z1m (some e) (.sl .plain (some true) 0 [])= .sl (.own e) none 0 []:=rfl
@[simp] theorem z9ga (keep:List Nat) (o e:List (Nat×z0a)) (b:List (Nat×Option (List z0a))):z1b (.keep keep) ⟨o,e,b⟩=⟨o,z3n (ASt.get ⟨o,e,b⟩) keep,b⟩:=z4C keep o e b
@[simp] theorem z4Z (ids:List Nat) (o e:List (Nat×z0a)) (b:List (Nat×Option (List z0a))):z1b (.freeze ids) ⟨o,e,b⟩=
  ⟨o,e.map fun p=>(p.1,z8F ids (fun id=>(ASt.getB ⟨o,e,b⟩ id).getD []) p.2),(z8n ids b).map fun p=>(p.1,p.2.map (z6j ids fun id=>(ASt.getB ⟨o,e,b⟩ id).getD []))⟩:=by rw[z1l];rfl
@[simp] theorem z4ia (E:Env) (a b:z1c) (Q:z5c→ASt→Prop) (s:ASt):awp E (.seq a b) Q s=awp E a (z2l (awp E b Q) Q) s:=rfl
theorem z4h (E:Env) (c:Arg) (a b:z1c) (Q:z5c→ASt→Prop) (s:ASt):
  awp E (.cond c a b) Q s=(isB (arg E s.get c)∧(asB (arg E s.get c)=true→awp E a Q s)∧(asB (arg E s.get c)=false→awp E b Q s)):=rfl
@[simp] theorem z02 (E:Env) (id:Nat) (b:z1c) (Q:z5c→ASt→Prop) (s:ASt):awp E (.block id b) Q s=awp E b (z8v id Q) s:=rfl
@[simp] theorem z9Z (E:Env) (b:z1c) (Q:z5c→ASt→Prop) (s:ASt):awp E (.scope b) Q s=awp E b Q s:=rfl
@[simp] theorem z39 (E:Env) (id:Nat) (Q:z5c→ASt→Prop) (s:ASt):awp E (.exit id) Q s=Q (.exit id) s:=rfl
@[simp] theorem z9na (E:Env) (Q:z5c→ASt→Prop) (s:ASt):awp E .ret Q s=Q .ret s:=rfl
@[simp] theorem z80 (E:Env) (g:z0h) (c:z1c) (Q:z5c→ASt→Prop) (s:ASt):awp E (.ghost g c) Q s=(z9i g s∧awp E c Q (z1b g s)):=rfl

attribute [simp] okA eff okp okp.okApp z3k z5q

/-! ### Reading arguments -/
def nth (ds:List z0a) (i:Nat):z0a:=ds.getD i .undef
def gU8 (v:z0a):UInt8:=UInt8.ofInt (asI v)
def z3ka (v:z0a):UInt32:=UInt32.ofInt (asI v)
def z2ha (v:z0a):UInt64:=UInt64.ofInt (asI v)
def gS (v:z0a):List UInt8:=(asS v).data.toList
def gCs (v:z0a):List z0a:=match v with| .agg cs=>cs| .sl _ _ _ cs=>cs| .ep cs=>cs| .tup cs=>cs|_=>[]
def gBs (l:List z0a):List UInt8:=l.map gU8
def gWs (l:List z0a):List UInt32:=l.map z3ka
@[simp] theorem nth_0 (d:z0a) (ds:List z0a):nth (d::ds) 0=d:=rfl
@[simp] theorem nth_s (d:z0a) (ds:List z0a) (i:Nat):nth (d::ds) (i+1)=nth ds i:=rfl
@[simp] theorem z9E (x:UInt8):gU8 (u8 x)=x:=by
 apply UInt8.toNat_inj.1
 rw[gU8,z5t,z6C]
 have:=x.toNat_lt
 omega
@[simp] theorem z9p (x:UInt32):z3ka (u32 x)=x:=by
 apply UInt32.toNat_inj.1
 rw[z3ka,z6t,z0M]
 have:=x.toNat_lt
 omega
@[simp] theorem z8p (x:UInt64):z2ha (u64 x)=x:=by
 apply UInt64.toNat_inj.1
 rw[z2ha,z3l,z6M]
 have:=x.toNat_lt
 omega
@[simp] theorem z51 (l:List UInt8):gS (st l)=l:=rfl
@[simp] theorem z5ha (l:List z0a):gCs (.agg l)=l:=rfl
@[simp] theorem z8ga (l:List z0a):gCs (.tup l)=l:=rfl
@[simp] theorem gCs_ep (l:List z0a):gCs (.ep l)=l:=rfl
@[simp] theorem gCs_sl (m:z4r) (nl:Option Bool) (n:Nat) (l:List z0a):gCs (.sl m nl n l)=l:=rfl
@[simp] theorem z4la:gCs (.lit (.slice none 0 0))=[]:=rfl
@[simp] theorem z7v (l:List UInt8):gBs (bys l)=l:=by simp[gBs,bys,Function.comp_def]
@[simp] theorem z0p (l:List UInt32):gWs (z7g l)=l:=by simp[gWs,z7g,Function.comp_def]
@[simp] theorem z7na:gBs []=[]:=rfl

@[simp] theorem u8_inj (x y:UInt8):(u8 x=u8 y)=(x=y):=propext ⟨fun h=>by rw[←z9E x,h,z9E],fun h=>by rw[h]⟩
@[simp] theorem z0ha (x y:UInt32):(u32 x=u32 y)=(x=y):=propext ⟨fun h=>by rw[←z9p x,h,z9p],fun h=>by rw[h]⟩
@[simp] theorem z9la (x y:UInt64):(u64 x=u64 y)=(x=y):=propext ⟨fun h=>by rw[←z8p x,h,z8p],fun h=>by rw[h]⟩
@[simp] theorem z0pa (x y:Int):(i64 x=i64 y)=(x=y):=propext ⟨fun h=>by rw[←z1t x,h,z1t],fun h=>by rw[h]⟩
@[simp] theorem bo_inj (x y:Bool):(bo x=bo y)=(x=y):=propext ⟨fun h=>by rw[←z4D x,h,z4D],fun h=>by rw[h]⟩
@[simp] theorem st_inj (x y:List UInt8):(st x=st y)=(x=y):=propext ⟨fun h=>by rw[←z51 x,h,z51],fun h=>by rw[h]⟩
@[simp] theorem z6oa (x y:List UInt8):(bys x=bys y)=(x=y):=propext ⟨fun h=>by rw[←z7v x,h,z7v],fun h=>by rw[h]⟩
@[simp] theorem z4ea (x y:List UInt32):(z7g x=z7g y)=(x=y):=propext ⟨fun h=>by rw[←z0p x,h,z0p],fun h=>by rw[h]⟩
theorem z2Ub (x:UInt32) (l:List UInt32):z7g (x::l)=u32 x::z7g l:=rfl

/-! ### Loops -/
theorem z1g {E:Env} {c:z1c} {Q:z5c→ASt→Prop} {st:ASt} (h:∀Q',Q'=Q→awp E c Q' st):awp E c Q st:=h Q rfl
theorem z1v {E:Env} {b:z1c} {Q:z5c→ASt→Prop} {st:ASt} {α:Type} (S:α→ASt) (μ:α→Nat) (inv:α→Prop) (a0:α) (h0:st=S a0) (hi:inv a0)
  (hr:∀a,inv a→awp E b (z2l (fun st'=>∃a',μ a'<μ a∧inv a'∧st'=S a') Q) (S a)):awp E (.loop b) Q st:=by
 refine⟨fun m st=>∃a,μ a=m∧inv a∧st=S a,⟨μ a0,a0,rfl,hi,h0⟩,?_⟩
 rintro m _ ⟨a,rfl,hia,rfl⟩
 have e:(z2l (fun st'=>∃a',μ a'<μ a∧inv a'∧st'=S a') Q)=(z2l (fun st'=>∃m',m'<μ a∧∃a',μ a'=m'∧inv a'∧st'=S a') Q):=by
  funext e st'
  cases e<;>simp only[z2l]
  apply propext
  constructor
  ·rintro⟨a',h1,h2,h3⟩;exact⟨_,h1,a',rfl,h2,h3⟩
  ·rintro⟨_,h1,a',rfl,h2,h3⟩;exact⟨a',h1,h2,h3⟩
 rw[←e]
 exact hr a hia

/-! ### Splices -/
@[simp] theorem z5s (a x:z0a) (l:List z0a):splice (a::l) 0 [x]=x::l:=by simp[splice]
@[simp] theorem z9K (a:z0a) (l:List z0a) (n:Nat) (xs:List z0a):splice (a::l) (n+1) xs=a::splice l n xs:=by
 simp only[splice,List.take_succ_cons,List.cons_append,List.cons.injEq,true_and]
 congr 1
 rw[show n+1+xs.length=(n+xs.length)+1 by omega,List.drop_succ_cons]
theorem z0qa {l xs:List z0a} (h:xs.length=l.length):splice l 0 xs=xs:=by simp[splice,h]
theorem z2yb {a b xs:List z0a} {n:Nat} (h:n+xs.length≤a.length):splice (a++b) n xs=splice a n xs++b:=by
 simp only[splice,List.append_assoc]
 rw[List.take_append_of_le_length (by omega),List.drop_append_of_le_length h]
theorem z9rb {a b xs:List z0a} {n:Nat} (h:a.length≤n):splice (a++b) n xs=a++splice b (n-a.length) xs:=by
 simp only[splice]
 rw[List.take_append,List.take_of_length_le h,List.drop_append,List.drop_of_length_le (by omega)]
 simp only[List.append_assoc,List.nil_append]
 rw[show n+xs.length-a.length=n-a.length+xs.length by omega]
theorem z7Fb {l:List UInt8} {n:Nat} {x:UInt8} (h:n<l.length):splice (bys l) n [u8 x]=bys (l.set n x):=by
 simp only[splice,bys,←List.map_take,←List.map_drop,List.length_singleton]
 rw[List.set_eq_take_append_cons_drop,if_pos h]
 simp
theorem z8La {l:List UInt32} {n:Nat} {x:UInt32} (h:n<l.length):splice (z7g l) n [u32 x]=z7g (l.set n x):=by
 simp only[splice,z7g,←List.map_take,←List.map_drop,List.length_singleton]
 rw[List.set_eq_take_append_cons_drop,if_pos h]
 simp
def at8 (l:List UInt8) (i:Nat):UInt8:=l.getD i 0
def z8i (l:List UInt32) (i:Nat):UInt32:=l.getD i 0
theorem z84c {l:List z0a} {n:Nat}:hdA (l.drop n)=l.getD n .undef:=by
 rw[hdA,List.headD_eq_head?_getD,List.head?_drop]
 rfl
theorem z5dd {l:List UInt8} {n:Nat} (h:n<l.length):(bys l).getD n .undef=u8 (at8 l n):=by
 simp[at8,bys,List.getD,List.getElem?_eq_getElem h]
theorem z1Xb {l:List UInt32} {n:Nat} (h:n<l.length):(z7g l).getD n .undef=u32 (z8i l n):=by
 simp[z8i,z7g,List.getD,List.getElem?_eq_getElem h]
theorem z8hc {l:List UInt8} {n:Nat} (h:n<l.length):hdA (bys (l.drop n))=u8 (at8 l n):=by rw[←z5ea,z84c,z5dd h]
@[simp] theorem z01 (l:List UInt32) (n:Nat):(z7g l).take n=z7g (l.take n):=by simp[z7g]
@[simp] theorem z90 (l:List UInt32) (n:Nat):(z7g l).drop n=z7g (l.drop n):=by simp[z7g]
theorem z93a {l:List UInt32} {n:Nat} (h:n<l.length):hdA (z7g (l.drop n))=u32 (z8i l n):=by rw[←z90,z84c,z1Xb h]
theorem z09c {l:List UInt32} (h:0<l.length):hdA (z7g l)=u32 (z8i l 0):=by rw[←z93a h,List.drop_zero]
@[simp] theorem z1F (l:List UInt32) (i:Nat) (h:i<(z7g l).length):(z7g l)[i]=u32 (z8i l i):=by
 have h':i<l.length:=by simpa using h
 simp[z8i,z7g,List.getElem?_eq_getElem h']
@[simp] theorem z3O (l:List UInt8) (i:Nat) (h:i<(bys l).length):(bys l)[i]=u8 (at8 l i):=by
 have h':i<l.length:=by simpa using h
 simp[at8,bys,List.getElem?_eq_getElem h']
@[simp] theorem z0y (x:UInt32) (l:List UInt32):hdA (z7g (x::l))=u32 x:=rfl
@[simp] theorem z6E (x:UInt8) (l:List UInt8):hdA (bys (x::l))=u8 x:=rfl
@[simp] theorem z4ba (a:z0a) (l:List z0a):hdA (a::l)=a:=rfl
theorem z9vc {a b:List UInt32} {i:Nat} (h:i<a.length):z8i (a++b) i=z8i a i:=by simp[z8i,List.getD,List.getElem?_append_left h]
theorem z0Yc {a b:List UInt8} {i:Nat} (h:a.length≤i):at8 (a++b) i=at8 b (i-a.length):=by simp[at8,List.getD,List.getElem?_append_right h]
theorem z3Ec {a b:List UInt32} {i:Nat} (h:a.length≤i):z8i (a++b) i=z8i b (i-a.length):=by simp[z8i,List.getD,List.getElem?_append_right h]
theorem z64c {a:List UInt8} {i n:Nat} (h:i<n):at8 (a.take n) i=at8 a i:=by simp[at8,List.getD,List.getElem?_take,h]
@[simp] theorem z4da {a:List UInt8} {i n:Nat}:at8 (a.drop n) i=at8 a (n+i):=by simp[at8,List.getD]
@[simp] theorem z8W {a:List UInt32} {i n:Nat}:z8i (a.drop n) i=z8i a (n+i):=by simp[z8i,List.getD]
@[simp] theorem z62 (x:UInt32) (l:List UInt32):z8i (x::l) 0=x:=rfl
@[simp] theorem z6W (x:UInt32) (l:List UInt32) (n:Nat):z8i (x::l) (n+1)=z8i l n:=rfl
@[simp] theorem z7ea (x:UInt8) (l:List UInt8):at8 (x::l) 0=x:=rfl
@[simp] theorem z1ca (x:UInt8) (l:List UInt8) (n:Nat):at8 (x::l) (n+1)=at8 l n:=rfl

def ks8 (n:Nat):List LK:=List.replicate n (.int .u8)
@[simp] theorem z4ld (n:Nat) (l:List UInt8):z6n (ks8 n) (bys l)=(l.length=n):=by
 induction n generalizing l with
 |zero=>cases l<;>simp[ks8,z6n,bys]
 |succ n ih=>
  cases l with
  |nil=>simp[ks8,List.replicate_succ,z6n,bys]
  |cons x l=>
   have:=ih l
   simp only[ks8,bys] at this
   simp[ks8,List.replicate_succ,z6n,bys,z91d,u8,this]
theorem z37a {n:Nat} {a b:List UInt8} (ha:a.length=n) (hb:b.length=n):z7s (ks8 n) (bys a) (bys b)=decide (a=b):=by
 induction n generalizing a b with
 |zero=>
  have e1:=List.length_eq_zero_iff.1 ha
  have e2:=List.length_eq_zero_iff.1 hb
  subst e1;subst e2
  rfl
 |succ n ih=>
  match a,b,ha,hb with
  |x::a,y::b,ha,hb=>
   have:=ih (a:=a) (b:=b) (by simpa using ha) (by simpa using hb)
   simp only[ks8,bys] at this
   simp only[ks8,List.replicate_succ,bys,List.map_cons,z7s,z15d,z6C,this]
   rw[Bool.eq_iff_iff]
   simp only[Bool.and_eq_true,beq_iff_eq,decide_eq_true_eq,List.cons.injEq,←UInt8.toNat_inj,Int.natCast_inj]
@[simp] theorem z6ga (l:List UInt8):(ByteArray.mk l.toArray).size=l.length:=by simp[ByteArray.size]
@[simp] theorem mod64 (n:UInt64):((n.toNat:Int)% 64).toNat=n.toNat% 64:=by omega
@[simp] theorem z8s (n:Int):z0a.lit (.int .i64 n)=i64 n:=rfl
@[simp] theorem z4Pd (b:Bool):z0a.lit (.bool b)=bo b:=rfl
@[simp] theorem z7oa (x:UInt8):z0a.lit (.int .u8 (x.toNat:Int))=u8 x:=rfl
@[simp] theorem z4s (l:List UInt8):z0a.lit (.string (z9e (bys l)))=st l:=by
 simp only[st,z9e,bys,List.map_map]
 congr 3
 rw[show((fun c=>UInt8.ofNat (asI c).toNat)∘u8)=id from funext fun x=>by simp[z6C]]
 simp
@[simp] theorem z2V (x:UInt8):z0a.lit (.string (z9e [u8 x]))=st [x]:=z4s [x]
@[simp] theorem z6N (l:List UInt8) (a b:Nat):z0a.lit (.string ((ByteArray.mk l.toArray).extract a b))=st ((l.drop a).take (b-a)):=by
 simp only[st]
 congr 2
 apply ByteArray.ext
 rw[ByteArray.data_extract]
 simp[List.extract]
attribute [simp] z4xa z8td z7la z2ga z3s okM z6H z7n z9S fnd Abs.ren renL
@[simp] theorem ren_u8 (m:List (Nat×Nat)) (x:UInt8):Abs.ren m (u8 x)=u8 x:=rfl
@[simp] theorem z6na (m:List (Nat×Nat)) (x:UInt32):Abs.ren m (u32 x)=u32 x:=rfl
@[simp] theorem z7ma (m:List (Nat×Nat)) (x:UInt64):Abs.ren m (u64 x)=u64 x:=rfl
@[simp] theorem z6ma (m:List (Nat×Nat)) (x:Int):Abs.ren m (i64 x)=i64 x:=rfl
@[simp] theorem ren_bo (m:List (Nat×Nat)) (x:Bool):Abs.ren m (bo x)=bo x:=rfl
@[simp] theorem ren_st (m:List (Nat×Nat)) (x:List UInt8):Abs.ren m (st x)=st x:=rfl
/-! ### Short forms of abstract code (what tools/pack.py prints) -/
@[simp] abbrev Ym (d s:Nat):z6a:=⟨some d,none,.mv false (.s s)⟩
@[simp] abbrev YM (d s:Nat):z6a:=⟨some d,none,.mv true (.s s)⟩
@[simp] abbrev Yc (d:Nat) (n:Int):z6a:=⟨some d,none,.mv false (.c (i64 n))⟩
@[simp] abbrev Yw (d:Nat) (b:Bool):z6a:=⟨some d,none,.mv false (.c (bo b))⟩
@[simp] abbrev Yl (d b a:Nat):z6a:=⟨some d,none,.load none (some b) false (.s a)⟩
@[simp] abbrev YL (d k b a:Nat):z6a:=⟨some d,none,.load (some k) (some b) false (.s a)⟩
@[simp] abbrev Yj (d a:Nat):z6a:=⟨some d,none,.load none none false (.s a)⟩
@[simp] abbrev YJ (d k a:Nat):z6a:=⟨some d,none,.load (some k) none false (.s a)⟩
@[simp] abbrev Yf (d n a:Nat):z6a:=⟨some d,none,.fieldAddr n (.s a)⟩
@[simp] abbrev Yn (d a:Nat):z6a:=⟨some d,none,.len false (.s a)⟩
@[simp] abbrev Yb (d:Nat) (o:BinOp) (x y:Nat):z6a:=⟨some d,none,.bin o (.s x) (.s y)⟩
@[simp] abbrev YB (d:Nat) (o:BinOp) (x:Nat) (n:Int):z6a:=⟨some d,none,.bin o (.s x) (.c (i64 n))⟩
@[simp] abbrev Yp (d x y:Nat):z6a:=⟨some d,none,.pick (.s x) (.s y) (.c (bo false))⟩
@[simp] abbrev YP (d x y:Nat):z6a:=⟨some d,none,.pick (.s x) (.c (bo true)) (.s y)⟩
@[simp] abbrev Yk (d f x:Nat):z6a:=⟨some d,none,.call f [.s x] []⟩
@[simp] abbrev YK (d f x y:Nat):z6a:=⟨some d,none,.call f [.s x,.s y] []⟩
@[simp] abbrev Yt (d f x y z:Nat):z6a:=⟨some d,none,.call f [.s x,.s y,.s z] []⟩
@[simp] abbrev YT (d f:Nat) (l:List Nat):z6a:=⟨some d,none,.call f (l.map .s) []⟩
@[simp] abbrev Yx (d i k a:Nat):z6a:=⟨some d,none,.box i (some k) false (.s a)⟩
@[simp] abbrev Yi (d e x y:Nat):z6a:=⟨some d,none,.idxSl e (.s x) (.s y)⟩
@[simp] abbrev Ye (d i x:Nat):z6a:=⟨some d,none,.extract i (.s x)⟩
@[simp] abbrev Ya (d n e x y:Nat):z6a:=⟨some d,none,.idxArr n e (.s x) (.s y)⟩
@[simp] abbrev YA (d n e x:Nat) (y:Int):z6a:=⟨some d,none,.idxArr n e (.s x) (.c (i64 y))⟩
@[simp] abbrev Yz (d i n:Nat):z6a:=⟨some d,none,.alloc i (bys (z5j n))⟩
@[simp] abbrev Yo (d:Nat) (o:AOp):z6a:=⟨some d,none,o⟩
@[simp] abbrev YO (o:AOp):z6a:=⟨none,none,o⟩
@[simp] abbrev Ys (k b a v:Nat):z6a:=⟨none,none,.store (some k) b false (.s a) (.s v)⟩
@[simp] abbrev YS (b a v:Nat):z6a:=⟨none,none,.store none b false (.s a) (.s v)⟩
@[simp] abbrev YG (g:Nat) (o:z6a):z6a:=⟨o.dst,some (g,true),o.op⟩
@[simp] abbrev Yg (g:Nat) (o:z6a):z6a:=⟨o.dst,some (g,false),o.op⟩
@[simp] abbrev Yr (k:List Nat) (l:List z6a) (r:z1c):z1c:= .seq (.region k [] l) r
@[simp] abbrev YR (k:List Nat) (g:List z0h) (l:List z6a) (r:z1c):z1c:= .seq (.region k g l) r
@[simp] abbrev Yq (a b:z1c):z1c:= .seq a b
@[simp] abbrev Yy (k:List Nat):z1c:= .ghost (.keep k) .skip
@[simp] abbrev YY (k:List Nat):z1c:= .ghost (.keep k) (.exit 0)
@[simp] abbrev Yu (k:List Nat) (l:List z6a):z1c:= .region k [] l
@[simp] abbrev Yd (s:Nat) (a b:z1c):z1c:= .cond (.s s) a b
end Go.Abs
end
