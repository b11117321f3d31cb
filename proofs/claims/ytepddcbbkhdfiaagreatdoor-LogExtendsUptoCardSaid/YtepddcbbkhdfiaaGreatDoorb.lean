/- Lemmas: an abstract interpreter, and what the functions compute. -/
import Derived.Test.YtepddcbbkhdfiaaGreatDoorZ
import Derived.Test.YtepddcbbkhdfiaaGreatDoorI
import Derived.Test.YtepddcbbkhdfiaaGreatDoorO
import Derived.Test.YtepddcbbkhdfiaaGreatDoorH
import Derived.Test.YtepddcbbkhdfiaaGreatDoorP
import Derived.Test.YtepddcbbkhdfiaaGreatDoorY
import Derived.Test.YtepddcbbkhdfiaaGreatDoora
import Derived.Test.YtepddcbbkhdfiaaGreatDoorJ
set_option linter.unusedSimpArgs false
set_option linter.unusedVariables false
set_option linter.unusedSectionVars false
section
namespace Go.Abs
def z1c (g:List z2a→Option z2a):z5a:=⟨fun ds=>(g ds).isSome=true,fun ds=>(g ds).getD .undef⟩
def z4ja (m:XM):CM:=⟨m.bx,m.nb,fun ds=>(m.run ds).isSome=true,fun ds=>((m.run ds).getD (.undef,fun _=>[])).1,fun ds=>((m.run ds).getD (.undef,fun _=>[])).2⟩
def z3Gb (m:XW):CW:=⟨m.hold,m.bx,[],fun ds bs=>(m.run ds bs).isSome=true,fun ds bs=>((m.run ds bs).getD (.undef,fun _=>[])).1,fun ds bs=>((m.run ds bs).getD (.undef,fun _=>[])).2⟩
def z1ub (g:List z2a→List z2a→Option (List (List z2a))):ItC:=⟨fun x y=>(g x y).isSome=true,fun x y i=>((g x y).getD [])[i]?,[]⟩
def Cx.wX (K:Cx) (X:XE):Cx:={K with E:=X.env}
section
variable {K : Cx} {X : XE}
theorem z84 {f:Nat} {c:z5a} {x:List z2a→Option z2a} (hv:z6a K f c) (h:∀ds v,x ds=some v→c.pre ds∧c.post ds=v):z6a K f (z1c x):=by
 refine⟨hv.1,fun S w ds vs hg hd hp=> ?_⟩
 simp only[z1c] at hp⊢
 cases hx:x ds with
 |none=>rw[hx] at hp;cases hp
 |some v=>
  obtain⟨h1,h2⟩:=h ds v hx
  rw[Option.getD_some,←h2]
  exact hv.2 S w ds vs hg hd h1
theorem z7xc {f:Nat} {c:z5a} {x:List z2a→Option z2a} (hv:z6a K f (z1c x)) (h:∀ds,c.pre ds→x ds=some (c.post ds)):z6a K f c:=by
 refine⟨hv.1,fun S w ds vs hg hd hp=> ?_⟩
 have h1:=hv.2 S w ds vs hg hd (by simp only[z1c,h ds hp];rfl)
 simp only[z1c,h ds hp,Option.getD_some] at h1
 exact h1
theorem z09a {f:Nat} {c:ItC} {x:List z2a→List z2a→Option (List (List z2a))} (hv:z0x K f c) (hl:c.lv=[]) (h:∀a b l,x a b=some l→c.pre a b∧∀i,c.el a b i=l[i]?):z0x K f (z1ub x):=by
 refine⟨hv.1,fun S w a b va vb B hg ha hb hp l J Jx N hR=> ?_⟩
 simp only[z1ub] at hp hR hb⊢
 cases hx:x a b with
 |none=>rw[hx] at hp;cases hp
 |some r=>
  obtain⟨h1,h2⟩:=h a b r hx
  have he:(fun i=>((some r).getD [])[i]?)=c.el a b:=funext fun i=>(h2 i).symm
  rw[hx] at hR
  have:=hv.2 S w a b va vb B hg ha (by rw[hl];exact hb) h1 l J Jx N (by rw[←he];exact hR)
  rw[show c.el a b=fun i=>((some r).getD [])[i]? from he.symm] at this
  exact this
theorem z8oa {f:Nat} {y:List z2a→Option z2a} {t:List (List z2a×z2a)} (hv:z6a K f (z1c y)) (ht:∀p∈t,y p.1=some p.2):z6a K f (z1c (z3Jc t)):=z84 hv fun ds v h=>by
 have:=z2fc ht h
 simp only[z1c,this,Option.isSome_some,Option.getD_some,and_self]
theorem z6db (hT:X.T=K.E.T) {f:Nat} {c:z5a}:z6a (K.wX X) f c↔z6a K f c:=by
 simp only[z6a,Cx.wX,XE.env,hT]
theorem z6Gc (hT:X.T=K.E.T) {b:z3s} {g:Gh} {w:World} {q:Nat→Option (List z2a)}:Inv (K.wX X) b g w q↔Inv K b g w q:=by
 constructor
 ·intro h
  exact {h with glob:=by have:=h.glob;simp only[Cx.wX,XE.env,hT] at this;exact this}
 ·intro h
  exact {h with glob:=by have:=h.glob;simp only[Cx.wX,XE.env,hT];exact this}
theorem z3ib (hT:X.T=K.E.T) {f:Nat} {c:CM}:z5y (K.wX X) f c↔z5y K f c:=by
 have h:∀{b:z3s} {g:Gh} {w:World} {q:Nat→Option (List z2a)},Inv (K.wX X) b g w q=Inv K b g w q:=propext (z6Gc hT)
 have h2:∀{g:Gh} {w:World} {ds:List z2a} {vs:List Value},z2ac (K.wX X) c g w ds vs=z2ac K c g w ds vs:=rfl
 simp only[z5y,h,h2]
 rfl
theorem z7pb (hT:X.T=K.E.T) {f:Nat} {c:CW}:z73 (K.wX X) f c↔z73 K f c:=by
 have h:∀{b:z3s} {g:Gh} {w:World} {q:Nat→Option (List z2a)},Inv (K.wX X) b g w q=Inv K b g w q:=propext (z6Gc hT)
 simp only[z73,h]
 rfl
theorem z4Tb (hT:X.T=K.E.T) {f:Nat} {c:ItC} (h:z0x K f c):z0x (K.wX X) f c:=
 ⟨h.1,fun S w x y vx vy B h1 h2 h3 hp l J Jx N hr=>h.2 S w x y vx vy B (fun n hn=>by have:=h1 n hn;simp only[Cx.wX,XE.env,hT] at this;exact this) h2 ⟨h3.len,h3.at',h3.inj,h3.dom,h3.lt⟩ hp l J Jx N ⟨hr.start,hr.bound,hr.stab,hr.stabx,hr.round⟩⟩
theorem vbG {f:Nat} {x:List z2a→Option z2a} (hT:X.T=K.E.T) (hx:X.G f=x) (h:z6a K f (z1c x)):VB (K.wX X) (f,false):=by
 subst hx;exact(z6db hT).2 h
theorem vbM {f:Nat} {x:XM} (hT:X.T=K.E.T) (hf:Nat.ble 500000000 f=false) (hx:X.M f=x) (h:z5y K f (z4ja x)):VB (K.wX X) (f,true):=by
 subst hx
 have h9:Nat.ble 999999990 f=false:=by
  cases h9:Nat.ble 999999990 f with
  |false=>rfl
  |true=>
   have:=Nat.le_of_ble_eq_true h9
   have h5:Nat.ble 500000000 f=true:=Nat.ble_eq_true_of_le (by omega)
   rw[h5] at hf;cases hf
 simp only[VB,h9,hf]
 exact(z3ib hT).2 h
theorem vbW {f:Nat} {x:XW} (hT:X.T=K.E.T) (hf:f<499999990) (hx:X.C f=x) (h:z73 K f (z3Gb x)):VB (K.wX X) (500000000+f,true):=by
 subst hx
 have h9:Nat.ble 999999990 (500000000+f)=false:=by
  cases h9:Nat.ble 999999990 (500000000+f) with
  |false=>rfl
  |true=>have:=Nat.le_of_ble_eq_true h9;omega
 have h5:Nat.ble 500000000 (500000000+f)=true:=Nat.ble_eq_true_of_le (by omega)
 simp only[VB,h9,h5,Nat.add_sub_cancel_left]
 exact(z7pb hT).2 h
theorem viI {f:Nat} {x:List z2a→List z2a→Option (List (List z2a))} (hT:X.T=K.E.T) (hx:X.I f=x) (h:z0x K f (z1ub x)):z0x (K.wX X) f ((K.wX X).E.I f):=by
 subst hx;exact z4Tb hT h
theorem z6Sd {f:Nat} {fn:Func} {F:z6e} {n:Nat} (hT:X.T=K.E.T) (hf:K.P.funcs[K.nu f]? =some fn) (hc:z2f (K.wX X) F fn=true) (hv:∀p∈z7b F.body,VB (K.wX X) p) (hfl:z6m F.body=true):z6a K f (z1c (z2cb X F n)):=
 (z6db hT).1 (z79 (K:=K.wX X) hf hc hv (z9fc (X:=X) F n) hfl)
theorem z7Zd {f:Nat} {fn:Func} {F:z6e} {n:Nat} (hT:X.T=K.E.T) (hf:K.P.funcs[K.nu f]? =some fn) (hc:z2f (K.wX X) F fn=true) (hv:∀p∈z7b F.body,VB (K.wX X) p) (hi:∀f∈z2F F.body,z0x (K.wX X) f ((K.wX X).E.I f)) (hfl:z8S F.body=true) (ht:(z0s F.body||z6m F.body)=true):z6a K f (z1c (z2cb X F n)):=
 (z6db hT).1 (z7ra (K:=K.wX X) hf hc hv (z9fc (X:=X) F n) hi hfl ht)
theorem z8hc {f:Nat} {fn:Func} {F:z6e} {n:Nat} {bx nb:List Nat} (hT:X.T=K.E.T) (hf:K.P.funcs[K.nu f]? =some fn) (hc:z2f (K.wX X) F fn=true) (hv:∀p∈z7b F.body,VB (K.wX X) p) (hb:∀j∈bx,j<F.n) (hfl:z6m F.body=true) (ht:z0s F.body=true):z5y K f (z4ja (z2va X F n bx nb)):=
 (z3ib hT).1 (z5Wa (K:=K.wX X) (c:=z6Ga X F n bx nb) hf hc hv hb (fun ds p=>z6pc (X:=X) F n bx nb ds p) hfl ht)
theorem runW {f:Nat} {fn:Func} {F:z6e} {n:Nat} {hold bx:List Nat} (hT:X.T=K.E.T) (hf:K.P.funcs[K.nu f]? =some fn) (hc:z2f (K.wX X) F fn=true) (hv:∀p∈z7b F.body,VB (K.wX X) p) (hfl:z6m F.body=true) (ht:z0s F.body=true):z73 K f (z3Gb (z8rb X F n hold bx)):=
 (z7pb hT).1 (z5vb (K:=K.wX X) (c:=z9Ja X F n hold bx) hf hc hv (fun ds bs p=>z5Bc (X:=X) F n hold bx ds bs p) hfl ht)
theorem z86a {f:Nat} {fn:Func} {F:z6e} (hf:K.P.funcs[K.nu f]? =some fn) (hc:z2f K F fn=true):z6a K f (z1c fun _=>none):=by
 simp only[z2f,Bool.and_eq_true,Bool.not_eq_true',decide_eq_true_eq] at hc
 refine⟨⟨fn,hf,?_,hc.1.1.1⟩,fun _ _ _ _ _ _ hp=>by cases hp⟩
 cases hb:fn.body with
 |none=>rw[hb] at hc;exact absurd hc.1.1.2 (by simp)
 |some _=>rfl
end
end Go.Abs
end

section
namespace Go.Abs
def z66a:z5a:=⟨fun ds=>∃n:Nat,n≤1000000∧ds=[.sl .plain (some true) 0 [],i64 n],fun _=> .sl (.own 30) none 0 []⟩
@[simp] theorem z37a (ds:List z2a):z66a.post ds= .sl (.own 30) none 0 []:=rfl
theorem z47d {c:z2a} (h:z3ec c=true):c=u8 (gU8 c):=by
 unfold z3ec at h
 split at h
 ·rename_i n
  simp only[Bool.and_eq_true,decide_eq_true_eq] at h
  have e:((UInt8.ofInt n).toNat:Int)=n:=by
   unfold UInt8.ofInt
   rw[UInt8.toNat_ofNat']
   omega
  show z2a.lit (.int .u8 n)= .lit (.int .u8 ((UInt8.ofInt n).toNat:Int))
  rw[e]
 ·cases h
theorem z7gc {cs:List z2a} (h:z7x z3ec cs=true):cs=bys (gBs cs):=by
 have h':=z3d h
 clear h
 induction cs with
 |nil=>rfl
 |cons c cs ih=>
  rw[gBs,List.map_cons,bys,List.map_cons,←z47d (h' c (by simp))]
  exact congrArg _ (ih fun d hd=>h' d (by simp[hd]))
theorem z34d {cs:List z2a} (h:z7x z7Rb cs=true):cs=sts (cs.map gS):=by
 have h':=z3d h
 clear h
 induction cs with
 |nil=>rfl
 |cons c cs ih=>
  have hc:=h' c (by simp)
  have e:c=st (gS c):=by
   unfold z7Rb at hc
   split at hc
   ·simp[st,gS,asS]
   ·cases hc
  rw[List.map_cons,sts,List.map_cons,←e]
  exact congrArg _ (ih fun d hd=>h' d (by simp[hd]))
theorem z7Lb (tag:Int):∀l:List (List UInt8),z8ja l<1099510000000→(z7l tag l).length≤1+z8ja l
 |[],_=>by simp[z7l,z8ja]
 |s::l,h=>by
  have e:z8ja (s::l)=s.length+9+z8ja l:=by simp[z8ja]
  have ih:=z7Lb tag l (by omega)
  have h1:=z9Fb (s:=s) (by omega)
  simp only[z7l,List.length_cons,List.flatMap_cons,List.length_append] at ih⊢
  omega
theorem z5Sc {tag:Int} {l:List (List UInt8)} (h:z8ja l≤1000000000):z5Yd tag l=z4j tag l:=by
 have:=z7Lb tag l (by omega)
 rw[z5Yd,z4j,z3sd (by omega)]
theorem z8tb {ds:List z2a} {v:z2a} (h:xOf ds=some v):∃(t:Int) (nl:Option Bool) (l:List (List UInt8)),z8ja l≤1000000000∧ds=[i64 t,.sl .plain nl l.length (sts l)]∧v= .agg (bys (z4j t l)):=by
 unfold xOf at h
 split at h
 ·rename_i t nl n cs
  cases hb:(Nat.beq n cs.length&&z7x z7Rb cs&&Nat.ble (z8ja (cs.map gS)) 1000000000) with
  |false=>rw[hb] at h;cases h
  |true=>
   rw[hb] at h
   simp only[Bool.and_eq_true] at hb
   have h1:=Nat.eq_of_beq_eq_true hb.1.1
   have h2:=z34d hb.1.2
   have h3:=Nat.le_of_ble_eq_true hb.2
   have e:v= .agg (bys (z5Yd t (cs.map gS))):=(Option.some.inj h).symm
   refine⟨t,nl,cs.map gS,h3,?_,by rw[e,z5Sc h3]⟩
   rw[←h2,List.length_map,←h1];rfl
 ·cases h
theorem z6bd (ds:List z2a) (v:z2a) (h:xOf ds=some v):ofC.pre ds∧ofC.post ds=v:=by
 obtain⟨t,nl,l,h1,rfl,rfl⟩:=z8tb h
 refine⟨⟨t,nl,l,by omega,rfl⟩,?_⟩
 show z2a.agg (bys (z4j t (gSs (sts l))))=_
 rw[z2Yb]
theorem z3sc (ds:List z2a) (v:z2a) (h:xOf ds=some v):z0vb.pre ds∧z0vb.post ds=v:=by
 obtain⟨t,nl,l,h1,rfl,rfl⟩:=z8tb h
 refine⟨⟨t,nl,l,by omega,rfl⟩,?_⟩
 show z2a.agg (bys (z4j t (gSs (sts l))))=_
 rw[z2Yb]
theorem z8ec {ds:List z2a} {v:z2a} (h:xSh ds=some v):∃(nl:Option Bool) (b:List UInt8),b.length≤1000000000∧ds=[.sl .plain nl b.length (bys b)]∧v= .agg (bys ((sha b).take 16)):=by
 unfold xSh at h
 split at h
 ·rename_i nl n cs
  cases hb:(Nat.beq n cs.length&&z7x z3ec cs&&Nat.ble n 1000000000) with
  |false=>rw[hb] at h;cases h
  |true=>
   rw[hb] at h
   simp only[Bool.and_eq_true] at hb
   have h1:=Nat.eq_of_beq_eq_true hb.1.1
   have h2:=z7gc hb.1.2
   have h3:=Nat.le_of_ble_eq_true hb.2
   have e:v= .agg (bys ((z70d (gBs cs)).take 16)):=(Option.some.inj h).symm
   have hl:(gBs cs).length=n:=by rw[gBs,List.length_map,←h1]
   refine⟨nl,gBs cs,by omega,?_,by rw[e,z3sd (by omega)]⟩
   rw[←h2,hl]
 ·cases h
theorem z7Qc (ds:List z2a) (v:z2a) (h:xSh ds=some v):shM.pre ds∧shM.post ds=v:=by
 obtain⟨nl,b,h1,rfl,rfl⟩:=z8ec h
 exact⟨⟨nl,b,h1,rfl⟩,z4Gb _ _ _ _⟩
theorem z9Rc (ds:List z2a) (v:z2a) (h:xGr 1 ds=some v):z7ob.pre ds∧z7ob.post ds=v:=by
 unfold xGr at h
 split at h
 ·rename_i n
  cases hb:(decide (0≤n)&&decide (n≤1000000)) with
  |false=>rw[hb] at h;cases h
  |true=>
   rw[hb] at h
   simp only[Bool.and_eq_true,decide_eq_true_eq] at hb
   refine⟨⟨n.toNat,by omega,?_⟩,Option.some.inj h⟩
   rw[show((n.toNat:Nat):Int)=n by omega];rfl
 ·cases h
theorem z3wc (ds:List z2a) (v:z2a) (h:xGr 30 ds=some v):z66a.pre ds∧z66a.post ds=v:=by
 unfold xGr at h
 split at h
 ·rename_i n
  cases hb:(decide (0≤n)&&decide (n≤1000000)) with
  |false=>rw[hb] at h;cases h
  |true=>
   rw[hb] at h
   simp only[Bool.and_eq_true,decide_eq_true_eq] at hb
   refine⟨⟨n.toNat,by omega,?_⟩,Option.some.inj h⟩
   rw[show((n.toNat:Nat):Int)=n by omega];rfl
 ·cases h
theorem z9Hd:∀(n:Nat) (b:List UInt8),b.length=n*16→∃l:List (List UInt8),z2p l∧l.length=n∧b=dgs l
 |0,b,h=>⟨[],z8n,rfl,by rw[List.length_eq_zero_iff.1 (by omega:b.length=0)];rfl⟩
 |n+1,b,h=>by
  obtain⟨l,h1,h2,h3⟩:=z9Hd n (b.drop 16) (by rw[List.length_drop];omega)
  exact⟨b.take 16::l,z4g.2 ⟨by rw[List.length_take];omega,h1⟩,by rw[List.length_cons,h2],by rw[z9V,←h3,List.take_append_drop]⟩
theorem z5Ob {n:Nat} {cs:List z2a} (h1:Nat.beq cs.length (n*16)=true) (h2:z7x z3ec cs=true):∃l:List (List UInt8),z2p l∧l.length=n∧cs=bys (dgs l):=by
 have e:=z7gc h2
 obtain⟨l,k1,k2,k3⟩:=z9Hd n (gBs cs) (by rw[gBs,List.length_map,Nat.eq_of_beq_eq_true h1])
 exact⟨l,k1,k2,by rw[←k3];exact e⟩
theorem z0bc (ds:List z2a) (v:z2a) (h:z7Nc ds=some v):z2ib.pre ds∧z2ib.post ds=v:=by
 unfold z7Nc at h
 split at h
 ·rename_i nl n cs
  cases hb:(Nat.beq cs.length (n*16)&&z7x z3ec cs&&Nat.ble n 1000000) with
  |false=>rw[hb] at h;cases h
  |true=>
   rw[hb] at h
   simp only[Bool.and_eq_true] at hb
   obtain⟨l,k1,k2,rfl⟩:=z5Ob hb.1.1 hb.1.2
   have h3:=Nat.le_of_ble_eq_true hb.2
   subst k2
   refine⟨⟨nl,l,k1,h3,rfl⟩,?_⟩
   rw[z2pa k1 rfl rfl]
   exact Option.some.inj h
 ·cases h
theorem z4Yb (ds:List z2a) (v:z2a) (h:z69c ds=some v):z05a.pre ds∧z05a.post ds=v:=by
 unfold z69c at h
 split at h
 ·rename_i nl n cs
  cases hb:(Nat.beq cs.length (n*30)&&z7x z2Y cs&&z3f cs&&Nat.ble n 1000000) with
  |false=>rw[hb] at h;cases h
  |true=>
   rw[hb] at h
   simp only[Bool.and_eq_true] at hb
   refine⟨⟨nl,n,cs,Nat.eq_of_beq_eq_true hb.1.1.1,fun c hc=>⟨(z7g cs).1 hb.1.2 c hc,z8L (z3d hb.1.1.2 c hc)⟩,Nat.le_of_ble_eq_true hb.2,rfl⟩,Option.some.inj h⟩
 ·cases h
theorem z0Yc (x y:List z2a) (l:List (List z2a)) (h:xBw x y=some l):z4lb.pre x y∧∀i,z4lb.el x y i=l[i]? :=by
 unfold xBw at h
 split at h
 ·rename_i nl n cs
  cases hb:(Nat.beq cs.length (n*16)&&z7x z3ec cs&&Nat.ble n 1000000) with
  |false=>rw[hb] at h;cases h
  |true=>
   rw[hb] at h
   simp only[Bool.and_eq_true] at hb
   obtain⟨q,k1,k2,rfl⟩:=z5Ob hb.1.1 hb.1.2
   have h3:=Nat.le_of_ble_eq_true hb.2
   subst k2
   refine⟨⟨rfl,nl,q,k1,h3,rfl⟩,fun i=> ?_⟩
   rw[z0gb k1,←Option.some.inj h,List.getElem?_map]
   by_cases hi:i<q.length
   ·rw[if_pos hi,List.getElem?_range hi,Option.map_some]
    have e:=z5wa k1 (show q.length-1-i<q.length by omega)
    rw[←e]
    simp[bys]
   ·rw[if_neg hi,List.getElem?_eq_none (by simp;omega)];rfl
 ·cases h
theorem z0Xb (f:Nat→Option (List z2a)):∀(n:Nat) (l:List (List z2a)),z75d f n=some l→l.length=n∧∀i<n,∃d,f i=some d∧l[i]? =some d
 |0,l,h=>by
  cases h
  exact⟨rfl,fun i hi=>absurd hi (Nat.not_lt_zero i)⟩
 |n+1,l,h=>by
  change(match z75d f n,f n with|some l,some d=>some (l++[d])|_,_=>none)=some l at h
  split at h
  ·rename_i l0 d0 e1 e2
   obtain⟨k1,k2⟩:=z0Xb f n l0 e1
   have e:=(Option.some.inj h).symm
   subst e
   refine⟨by simp[k1],fun i hi=> ?_⟩
   by_cases hn:i<n
   ·obtain⟨d,h1,h2⟩:=k2 i hn
    exact⟨d,h1,by rw[List.getElem?_append_left (by omega),h2]⟩
   ·obtain rfl:i=n:=by omega
    exact⟨d0,e2,by rw[List.getElem?_append_right (by omega),k1,Nat.sub_self];rfl⟩
  ·cases h
theorem z3Jd {d:z2a} (h:z62b d=true):z8d d=true∧dem d=d∧yOk d=true∧z5b d=true:=by
 unfold z62b at h
 split at h
 ·rename_i l
  have e:=z7gc h
  have m:z6b l=true:=by
   rw[e];generalize gBs l=b
   induction b with
   |nil=>rfl
   |cons a b ih=>
    show(z5b (u8 a)&&z6b (bys b))=true
    rw[ih];rfl
  refine⟨?_,rfl,?_,?_⟩
  ·rw[z8d,e];simp
  ·exact m
  ·exact m
 ·cases h
theorem z7Yc (g:List z2a→Option z2a) (x y:List z2a) (l:List (List z2a)) (h:xDg g x y=some l):(z6wb (z1c g)).pre x y∧∀i,(z6wb (z1c g)).el x y i=l[i]? :=by
 unfold xDg at h
 split at h
 ·rename_i nl n cs
  cases hb:(Nat.beq cs.length (n*30)&&z7x z2Y cs&&z3f cs&&z7x z15b cs&&Nat.ble n 1000000) with
  |false=>rw[hb] at h;cases h
  |true=>
   rw[hb] at h
   simp only[Bool.and_eq_true] at hb
   obtain⟨hl,hc⟩:=z0Xb _ n l h
   have hi:∀i,i<n→∃d,g [z2Ia cs i]=some d∧z62b d=true∧l[i]? =some [d]:=fun i h0=>by
    obtain⟨q,h1,h2⟩:=hc i h0
    obtain⟨d,h3,h4⟩:=Option.bind_eq_some_iff.1 h1
    cases hd:z62b d with
    |false=>rw[hd] at h4;cases h4
    |true=>rw[hd] at h4;cases h4;exact⟨d,h3,hd,h2⟩
   refine⟨⟨rfl,nl,n,cs,Nat.eq_of_beq_eq_true hb.1.1.1.1,Nat.le_of_ble_eq_true hb.2,fun d hd=>⟨(z7g cs).1 hb.1.1.2 d hd,z8L (z3d hb.1.1.1.2 d hd),?_⟩,fun i h0=> ?_,rfl⟩,fun i=> ?_⟩
   ·have:=z3d hb.1.2 d hd
    simpa[z15b] using this
   ·obtain⟨d,h1,h2,_⟩:=hi i h0
    have h3:=z3Jd h2
    simp only[z1c,h1,Option.isSome_some,Option.getD_some]
    exact⟨trivial,h3.1,h3.2.1,h3.2.2.1,h3.2.2.2⟩
   ·rw[z43b]
    by_cases h0:i<n
    ·obtain⟨d,h1,_,h2⟩:=hi i h0
     rw[if_pos h0,h2]
     simp only[z1c,h1,Option.getD_some]
    ·rw[if_neg h0,List.getElem?_eq_none (by omega)]
 ·cases h
theorem z8ob {K:Cx} {X:XE} (hT:X.T=K.E.T) {f:Nat} {c:ItC} (h:z0x (K.wX X) f c):z0x K f c:=
 ⟨h.1,fun S w x y vx vy B h1 h2 h3 hp l J Jx N hr=>h.2 S w x y vx vy B (fun n hn=>by have:=h1 n hn;simp only[Cx.wX,XE.env,hT];exact this) h2 ⟨h3.len,h3.at',h3.inj,h3.dom,h3.lt⟩ hp l J Jx N ⟨hr.start,hr.bound,hr.stab,hr.stabx,hr.round⟩⟩
def VLs (K:Cx):List (Nat×(List z2a→Option z2a))→Prop
 |[]=>True
 |p::l=>z6a K p.1 (z1c p.2)∧VLs K l
theorem z4bc {K:Cx}:∀{l:List (Nat×(List z2a→Option z2a))},VLs K l→∀a∈l.map Prod.fst,z6a K a (z1c (lkG l a))
 |[],_,_,h=>by cases h
 |p::l,hl,a,h=>by
  show z6a K a (z1c (bif Nat.beq p.1 a then p.2 else lkG l a))
  cases hb:Nat.beq p.1 a with
  |true=>rw[←Nat.eq_of_beq_eq_true hb];exact hl.1
  |false=>
   refine z4bc hl.2 a ?_
   rcases List.mem_cons.1 h with rfl|h
   ·rw[Nat.beq_refl] at hb;cases hb
   ·exact h
section
variable {K : Cx} {X : XE} {f : Nat} {fn : Func} {F : z6e} {n : Nat}
theorem rL {T:Nat→List z2a} {l:List (Nat×(List z2a→Option z2a))} (hf:K.P.funcs[K.nu f]? =some fn) (hc:(z2f (K.wX (xGT T l)) F fn&&(z7b F.body).all (fun p=> !p.2&&(l.map Prod.fst).contains p.1)&&z6m F.body)=true) (hv:VLs K l) (hT:T=K.E.T):z6a K f (z1c (z2cb (xGT T l) F n)):=by
 simp only[Bool.and_eq_true] at hc
 refine z6Sd hT hf hc.1.1 (fun p hp=> ?_) hc.2
 have h:=List.all_eq_true.1 hc.1.2 p hp
 obtain⟨a,b⟩:=p
 simp only[Bool.and_eq_true,Bool.not_eq_true',List.contains_eq_mem,decide_eq_true_eq] at h
 obtain rfl:b=false:=h.1
 exact vbG hT rfl (z4bc hv a h.2)
theorem rG (l:List (Nat×Bool)) (hT:X.T=K.E.T) (hf:K.P.funcs[K.nu f]? =some fn) (hc:(z2f (K.wX X) F fn&&(z7b F.body).all (fun p=>l.contains p)&&z6m F.body)=true) (hv:VBs (K.wX X) l):z6a K f (z1c (z2cb X F n)):=by
 simp only[Bool.and_eq_true] at hc
 exact z6Sd hT hf hc.1.1 (z4Kc hc.1.2 hv) hc.2
end
end Go.Abs
end

section
namespace Go.Abs
theorem z0Qd (ds:List z2a) (h:z6zc.pre ds):z1tc ds=some (z6zc.post ds):=by
 obtain rfl:ds=[]:=h
 have h1:=z55d
 generalize z1tc []=o at h1⊢
 split at h1
 ·rename_i b
  rw[h1];rfl
 ·cases h1
end Go.Abs
end
