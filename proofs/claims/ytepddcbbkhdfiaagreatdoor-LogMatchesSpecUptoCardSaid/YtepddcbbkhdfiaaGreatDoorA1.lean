/- Lemmas: an abstract interpreter, and what the functions compute. -/
import Derived.Test.YtepddcbbkhdfiaaGreatDoorY
import Derived.Test.YtepddcbbkhdfiaaGreatDoorI
import Derived.Test.YtepddcbbkhdfiaaGreatDoorN
import Derived.Test.YtepddcbbkhdfiaaGreatDoorH
import Derived.Test.YtepddcbbkhdfiaaGreatDoorO
import Derived.Test.YtepddcbbkhdfiaaGreatDoorX
import Derived.Test.YtepddcbbkhdfiaaGreatDoorZ
import Derived.Test.YtepddcbbkhdfiaaGreatDoorJ
set_option linter.unusedSimpArgs false
set_option linter.unusedVariables false
set_option linter.unusedSectionVars false
section
namespace Go.Abs
def z5qa (g:List z0a→Option z0a):z1f:=⟨fun ds=>(g ds).isSome=true,fun ds=>(g ds).getD .undef⟩
def z2ub (m:XM):CM:=⟨m.bx,m.nb,fun ds=>(m.run ds).isSome=true,fun ds=>((m.run ds).getD (.undef,fun _=>[])).1,fun ds=>((m.run ds).getD (.undef,fun _=>[])).2⟩
def z0Gc (m:XW):CW:=⟨m.hold,m.bx,[],fun ds bs=>(m.run ds bs).isSome=true,fun ds bs=>((m.run ds bs).getD (.undef,fun _=>[])).1,fun ds bs=>((m.run ds bs).getD (.undef,fun _=>[])).2⟩
def z0hc (g:List z0a→List z0a→Option (List (List z0a))):ItC:=⟨fun x y=>(g x y).isSome=true,fun x y i=>((g x y).getD [])[i]?,[]⟩
def Cx.wX (K:Cx) (X:XE):Cx:={K with E:=X.env}
section
variable {K : Cx} {X : XE}
theorem z9jb {f:Nat} {c:z1f} {x:List z0a→Option z0a} (hv:z1a K f c) (h:∀ds v,x ds=some v→c.pre ds∧c.post ds=v):z1a K f (z5qa x):=by
 refine⟨hv.1,fun S w ds vs hg hd hp=> ?_⟩
 simp only[z5qa] at hp⊢
 cases hx:x ds with
 |none=>rw[hx] at hp;cases hp
 |some v=>
  obtain⟨h1,h2⟩:=h ds v hx
  rw[Option.getD_some,←h2]
  exact hv.2 S w ds vs hg hd h1
theorem z5dd {f:Nat} {c:z1f} {x:List z0a→Option z0a} (hv:z1a K f (z5qa x)) (h:∀ds,c.pre ds→x ds=some (c.post ds)):z1a K f c:=by
 refine⟨hv.1,fun S w ds vs hg hd hp=> ?_⟩
 have h1:=hv.2 S w ds vs hg hd (by simp only[z5qa,h ds hp];rfl)
 simp only[z5qa,h ds hp,Option.getD_some] at h1
 exact h1
theorem z86b {f:Nat} {c:ItC} {x:List z0a→List z0a→Option (List (List z0a))} (hv:z3La K f c) (hl:c.lv=[]) (h:∀a b l,x a b=some l→c.pre a b∧∀i,c.el a b i=l[i]?):z3La K f (z0hc x):=by
 refine⟨hv.1,fun S w a b va vb B hg ha hb hp l J Jx N hR=> ?_⟩
 simp only[z0hc] at hp hR hb⊢
 cases hx:x a b with
 |none=>rw[hx] at hp;cases hp
 |some r=>
  obtain⟨h1,h2⟩:=h a b r hx
  have he:(fun i=>((some r).getD [])[i]?)=c.el a b:=funext fun i=>(h2 i).symm
  rw[hx] at hR
  have:=hv.2 S w a b va vb B hg ha (by rw[hl];exact hb) h1 l J Jx N (by rw[←he];exact hR)
  rw[show c.el a b=fun i=>((some r).getD [])[i]? from he.symm] at this
  exact this
theorem z0yb {f:Nat} {y:List z0a→Option z0a} {t:List (List z0a×z0a)} (hv:z1a K f (z5qa y)) (ht:∀p∈t,y p.1=some p.2):z1a K f (z5qa (z5od t)):=z9jb hv fun ds v h=>by
 have:=z64c ht h
 simp only[z5qa,this,Option.isSome_some,Option.getD_some,and_self]
theorem z3ac (hT:X.T=K.E.T) {f:Nat} {c:z1f}:z1a (K.wX X) f c↔z1a K f c:=by
 simp only[z1a,Cx.wX,XE.env,hT]
theorem z2od (hT:X.T=K.E.T) {b:z4f} {g:Gh} {w:World} {q:Nat→Option (List z0a)}:Inv (K.wX X) b g w q↔Inv K b g w q:=by
 constructor
 ·intro h
  exact {h with glob:=by have:=h.glob;simp only[Cx.wX,XE.env,hT] at this;exact this}
 ·intro h
  exact {h with glob:=by have:=h.glob;simp only[Cx.wX,XE.env,hT];exact this}
theorem z7gc (hT:X.T=K.E.T) {f:Nat} {c:CM}:z0Na (K.wX X) f c↔z0Na K f c:=by
 have h:∀{b:z4f} {g:Gh} {w:World} {q:Nat→Option (List z0a)},Inv (K.wX X) b g w q=Inv K b g w q:=propext (z2od hT)
 have h2:∀{g:Gh} {w:World} {ds:List z0a} {vs:List Value},z54c (K.wX X) c g w ds vs=z54c K c g w ds vs:=rfl
 simp only[z0Na,h,h2]
 rfl
theorem z8gc (hT:X.T=K.E.T) {f:Nat} {c:CW}:z7ib (K.wX X) f c↔z7ib K f c:=by
 have h:∀{b:z4f} {g:Gh} {w:World} {q:Nat→Option (List z0a)},Inv (K.wX X) b g w q=Inv K b g w q:=propext (z2od hT)
 simp only[z7ib,h]
 rfl
theorem z1Kc (hT:X.T=K.E.T) {f:Nat} {c:ItC} (h:z3La K f c):z3La (K.wX X) f c:=
 ⟨h.1,fun S w x y vx vy B h1 h2 h3 hp l J Jx N hr=>h.2 S w x y vx vy B (fun n hn=>by have:=h1 n hn;simp only[Cx.wX,XE.env,hT] at this;exact this) h2 ⟨h3.len,h3.at',h3.inj,h3.dom,h3.lt⟩ hp l J Jx N ⟨hr.start,hr.bound,hr.stab,hr.stabx,hr.round⟩⟩
theorem vbG {f:Nat} {x:List z0a→Option z0a} (hT:X.T=K.E.T) (hx:X.G f=x) (h:z1a K f (z5qa x)):VB (K.wX X) (f,false):=by
 subst hx;exact(z3ac hT).2 h
theorem vbM {f:Nat} {x:XM} (hT:X.T=K.E.T) (hf:Nat.ble 500000000 f=false) (hx:X.M f=x) (h:z0Na K f (z2ub x)):VB (K.wX X) (f,true):=by
 subst hx
 have h9:Nat.ble 999999990 f=false:=by
  cases h9:Nat.ble 999999990 f with
  |false=>rfl
  |true=>
   have:=Nat.le_of_ble_eq_true h9
   have h5:Nat.ble 500000000 f=true:=Nat.ble_eq_true_of_le (by omega)
   rw[h5] at hf;cases hf
 simp only[VB,h9,hf]
 exact(z7gc hT).2 h
theorem vbW {f:Nat} {x:XW} (hT:X.T=K.E.T) (hf:f<499999990) (hx:X.C f=x) (h:z7ib K f (z0Gc x)):VB (K.wX X) (500000000+f,true):=by
 subst hx
 have h9:Nat.ble 999999990 (500000000+f)=false:=by
  cases h9:Nat.ble 999999990 (500000000+f) with
  |false=>rfl
  |true=>have:=Nat.le_of_ble_eq_true h9;omega
 have h5:Nat.ble 500000000 (500000000+f)=true:=Nat.ble_eq_true_of_le (by omega)
 simp only[VB,h9,h5,Nat.add_sub_cancel_left]
 exact(z8gc hT).2 h
theorem viI {f:Nat} {x:List z0a→List z0a→Option (List (List z0a))} (hT:X.T=K.E.T) (hx:X.I f=x) (h:z3La K f (z0hc x)):z3La (K.wX X) f ((K.wX X).E.I f):=by
 subst hx;exact z1Kc hT h
theorem z2de {f:Nat} {fn:Func} {F:z1ka} {n:Nat} (hT:X.T=K.E.T) (hf:K.P.funcs[K.nu f]? =some fn) (hc:z3ta (K.wX X) F fn=true) (hv:∀p∈z4a F.body,VB (K.wX X) p) (hfl:z9Aa F.body=true):z1a K f (z5qa (z0cc X F n)):=
 (z3ac hT).1 (z3rb (K:=K.wX X) hf hc hv (z45c (X:=X) F n) hfl)
theorem z6ae {f:Nat} {fn:Func} {F:z1ka} {n:Nat} (hT:X.T=K.E.T) (hf:K.P.funcs[K.nu f]? =some fn) (hc:z3ta (K.wX X) F fn=true) (hv:∀p∈z4a F.body,VB (K.wX X) p) (hi:∀f∈z1Ua F.body,z3La (K.wX X) f ((K.wX X).E.I f)) (hfl:z68a F.body=true) (ht:(z2Ga F.body||z9Aa F.body)=true):z1a K f (z5qa (z0cc X F n)):=
 (z3ac hT).1 (z1xb (K:=K.wX X) hf hc hv (z45c (X:=X) F n) hi hfl ht)
theorem z16c {f:Nat} {fn:Func} {F:z1ka} {n:Nat} {bx nb:List Nat} (hT:X.T=K.E.T) (hf:K.P.funcs[K.nu f]? =some fn) (hc:z3ta (K.wX X) F fn=true) (hv:∀p∈z4a F.body,VB (K.wX X) p) (hb:∀j∈bx,j<F.n) (hfl:z9Aa F.body=true) (ht:z2Ga F.body=true):z0Na K f (z2ub (z3Bb X F n bx nb)):=
 (z7gc hT).1 (z83b (K:=K.wX X) (c:=z9Pb X F n bx nb) hf hc hv hb (fun ds p=>z77c (X:=X) F n bx nb ds p) hfl ht)
theorem runW {f:Nat} {fn:Func} {F:z1ka} {n:Nat} {hold bx:List Nat} (hT:X.T=K.E.T) (hf:K.P.funcs[K.nu f]? =some fn) (hc:z3ta (K.wX X) F fn=true) (hv:∀p∈z4a F.body,VB (K.wX X) p) (hfl:z9Aa F.body=true) (ht:z2Ga F.body=true):z7ib K f (z0Gc (z9hc X F n hold bx)):=
 (z8gc hT).1 (z5tc (K:=K.wX X) (c:=z4Nb X F n hold bx) hf hc hv (fun ds bs p=>z7ed (X:=X) F n hold bx ds bs p) hfl ht)
theorem z85b {f:Nat} {fn:Func} {F:z1ka} (hf:K.P.funcs[K.nu f]? =some fn) (hc:z3ta K F fn=true):z1a K f (z5qa fun _=>none):=by
 simp only[z3ta,Bool.and_eq_true,Bool.not_eq_true',decide_eq_true_eq] at hc
 refine⟨⟨fn,hf,?_,hc.1.1.1⟩,fun _ _ _ _ _ _ hp=>by cases hp⟩
 cases hb:fn.body with
 |none=>rw[hb] at hc;exact absurd hc.1.1.2 (by simp)
 |some _=>rfl
end
end Go.Abs
end

section
namespace Go.Abs
def z27b:z1f:=⟨fun ds=>∃n:Nat,n≤1000000∧ds=[.sl .plain (some true) 0 [],i64 n],fun _=> .sl (.own 30) none 0 []⟩
@[simp] theorem z57b (ds:List z0a):z27b.post ds= .sl (.own 30) none 0 []:=rfl
theorem z4me {c:z0a} (h:z8Uc c=true):c=u8 (gU8 c):=by
 unfold z8Uc at h
 split at h
 ·rename_i n
  simp only[Bool.and_eq_true,decide_eq_true_eq] at h
  have e:((UInt8.ofInt n).toNat:Int)=n:=by
   unfold UInt8.ofInt
   rw[UInt8.toNat_ofNat']
   omega
  show z0a.lit (.int .u8 n)= .lit (.int .u8 ((UInt8.ofInt n).toNat:Int))
  rw[e]
 ·cases h
theorem z02c {cs:List z0a} (h:z1Ma z8Uc cs=true):cs=bys (gBs cs):=by
 have h':=z1ra h
 clear h
 induction cs with
 |nil=>rfl
 |cons c cs ih=>
  rw[gBs,List.map_cons,bys,List.map_cons,←z4me (h' c (by simp))]
  exact congrArg _ (ih fun d hd=>h' d (by simp[hd]))
theorem z5ke {cs:List z0a} (h:z1Ma z3Mc cs=true):cs=sts (cs.map gS):=by
 have h':=z1ra h
 clear h
 induction cs with
 |nil=>rfl
 |cons c cs ih=>
  have hc:=h' c (by simp)
  have e:c=st (gS c):=by
   unfold z3Mc at hc
   split at hc
   ·simp[st,gS,asS]
   ·cases hc
  rw[List.map_cons,sts,List.map_cons,←e]
  exact congrArg _ (ih fun d hd=>h' d (by simp[hd]))
theorem z8Gc (tag:Int):∀l:List (List UInt8),z9rb l<1099510000000→(z4ga tag l).length≤1+z9rb l
 |[],_=>by simp[z4ga,z9rb]
 |s::l,h=>by
  have e:z9rb (s::l)=s.length+9+z9rb l:=by simp[z9rb]
  have ih:=z8Gc tag l (by omega)
  have h1:=z6Fc (s:=s) (by omega)
  simp only[z4ga,List.length_cons,List.flatMap_cons,List.length_append] at ih⊢
  omega
theorem z0Dd {tag:Int} {l:List (List UInt8)} (h:z9rb l≤1000000000):z4ce tag l=z0f tag l:=by
 have:=z8Gc tag l (by omega)
 rw[z4ce,z0f,z8Zd (by omega)]
theorem z5ic {ds:List z0a} {v:z0a} (h:xOf ds=some v):∃(t:Int) (nl:Option Bool) (l:List (List UInt8)),z9rb l≤1000000000∧ds=[i64 t,.sl .plain nl l.length (sts l)]∧v= .agg (bys (z0f t l)):=by
 unfold xOf at h
 split at h
 ·rename_i t nl n cs
  cases hb:(Nat.beq n cs.length&&z1Ma z3Mc cs&&Nat.ble (z9rb (cs.map gS)) 1000000000) with
  |false=>rw[hb] at h;cases h
  |true=>
   rw[hb] at h
   simp only[Bool.and_eq_true] at hb
   have h1:=Nat.eq_of_beq_eq_true hb.1.1
   have h2:=z5ke hb.1.2
   have h3:=Nat.le_of_ble_eq_true hb.2
   have e:v= .agg (bys (z4ce t (cs.map gS))):=(Option.some.inj h).symm
   refine⟨t,nl,cs.map gS,h3,?_,by rw[e,z0Dd h3]⟩
   rw[←h2,List.length_map,←h1];rfl
 ·cases h
theorem z6Jd (ds:List z0a) (v:z0a) (h:xOf ds=some v):ofC.pre ds∧ofC.post ds=v:=by
 obtain⟨t,nl,l,h1,rfl,rfl⟩:=z5ic h
 refine⟨⟨t,nl,l,by omega,rfl⟩,?_⟩
 show z0a.agg (bys (z0f t (gSs (sts l))))=_
 rw[z9fa]
theorem z5fd (ds:List z0a) (v:z0a) (h:xOf ds=some v):z8Rb.pre ds∧z8Rb.post ds=v:=by
 obtain⟨t,nl,l,h1,rfl,rfl⟩:=z5ic h
 refine⟨⟨t,nl,l,by omega,rfl⟩,?_⟩
 show z0a.agg (bys (z0f t (gSs (sts l))))=_
 rw[z9fa]
theorem z4Wc {ds:List z0a} {v:z0a} (h:xSh ds=some v):∃(nl:Option Bool) (b:List UInt8),b.length≤1000000000∧ds=[.sl .plain nl b.length (bys b)]∧v= .agg (bys ((sha b).take 16)):=by
 unfold xSh at h
 split at h
 ·rename_i nl n cs
  cases hb:(Nat.beq n cs.length&&z1Ma z8Uc cs&&Nat.ble n 1000000000) with
  |false=>rw[hb] at h;cases h
  |true=>
   rw[hb] at h
   simp only[Bool.and_eq_true] at hb
   have h1:=Nat.eq_of_beq_eq_true hb.1.1
   have h2:=z02c hb.1.2
   have h3:=Nat.le_of_ble_eq_true hb.2
   have e:v= .agg (bys ((z7ce (gBs cs)).take 16)):=(Option.some.inj h).symm
   have hl:(gBs cs).length=n:=by rw[gBs,List.length_map,←h1]
   refine⟨nl,gBs cs,by omega,?_,by rw[e,z8Zd (by omega)]⟩
   rw[←h2,hl]
 ·cases h
theorem z8td (ds:List z0a) (v:z0a) (h:xSh ds=some v):shM.pre ds∧shM.post ds=v:=by
 obtain⟨nl,b,h1,rfl,rfl⟩:=z4Wc h
 exact⟨⟨nl,b,h1,rfl⟩,z7Ac _ _ _ _⟩
theorem z7zd (ds:List z0a) (v:z0a) (h:xGr 1 ds=some v):z0lc.pre ds∧z0lc.post ds=v:=by
 unfold xGr at h
 split at h
 ·rename_i n
  cases hb:(decide (0≤n)&&decide (n≤1000000)) with
  |false=>rw[hb] at h;cases h
  |true=>
   rw[hb] at h
   simp only[Bool.and_eq_true,decide_eq_true_eq] at hb
   refine⟨⟨n.toNat,by omega,?_⟩,Option.some.inj h⟩
   rw[show((n.toNat:Nat):Int)=n by omega];rfl
 ·cases h
theorem z1gd (ds:List z0a) (v:z0a) (h:xGr 30 ds=some v):z27b.pre ds∧z27b.post ds=v:=by
 unfold xGr at h
 split at h
 ·rename_i n
  cases hb:(decide (0≤n)&&decide (n≤1000000)) with
  |false=>rw[hb] at h;cases h
  |true=>
   rw[hb] at h
   simp only[Bool.and_eq_true,decide_eq_true_eq] at hb
   refine⟨⟨n.toNat,by omega,?_⟩,Option.some.inj h⟩
   rw[show((n.toNat:Nat):Int)=n by omega];rfl
 ·cases h
theorem z1Zd:∀(n:Nat) (b:List UInt8),b.length=n*16→∃l:List (List UInt8),z9n l∧l.length=n∧b=dgs l
 |0,b,h=>⟨[],z6z,rfl,by rw[List.length_eq_zero_iff.1 (by omega:b.length=0)];rfl⟩
 |n+1,b,h=>by
  obtain⟨l,h1,h2,h3⟩:=z1Zd n (b.drop 16) (by rw[List.length_drop];omega)
  exact⟨b.take 16::l,z1u.2 ⟨by rw[List.length_take];omega,h1⟩,by rw[List.length_cons,h2],by rw[z43a,←h3,List.take_append_drop]⟩
theorem z0Hc {n:Nat} {cs:List z0a} (h1:Nat.beq cs.length (n*16)=true) (h2:z1Ma z8Uc cs=true):∃l:List (List UInt8),z9n l∧l.length=n∧cs=bys (dgs l):=by
 have e:=z02c h2
 obtain⟨l,k1,k2,k3⟩:=z1Zd n (gBs cs) (by rw[gBs,List.length_map,Nat.eq_of_beq_eq_true h1])
 exact⟨l,k1,k2,by rw[←k3];exact e⟩
theorem z9Uc (ds:List z0a) (v:z0a) (h:z1Dd ds=some v):z6nc.pre ds∧z6nc.post ds=v:=by
 unfold z1Dd at h
 split at h
 ·rename_i nl n cs
  cases hb:(Nat.beq cs.length (n*16)&&z1Ma z8Uc cs&&Nat.ble n 1000000) with
  |false=>rw[hb] at h;cases h
  |true=>
   rw[hb] at h
   simp only[Bool.and_eq_true] at hb
   obtain⟨l,k1,k2,rfl⟩:=z0Hc hb.1.1 hb.1.2
   have h3:=Nat.le_of_ble_eq_true hb.2
   subst k2
   refine⟨⟨nl,l,k1,h3,rfl⟩,?_⟩
   rw[z1zb k1 rfl rfl]
   exact Option.some.inj h
 ·cases h
theorem z5Qc (ds:List z0a) (v:z0a) (h:z5Dd ds=some v):z2Cb.pre ds∧z2Cb.post ds=v:=by
 unfold z5Dd at h
 split at h
 ·rename_i nl n cs
  cases hb:(Nat.beq cs.length (n*30)&&z1Ma z0db cs&&z8b cs&&Nat.ble n 1000000) with
  |false=>rw[hb] at h;cases h
  |true=>
   rw[hb] at h
   simp only[Bool.and_eq_true] at hb
   refine⟨⟨nl,n,cs,Nat.eq_of_beq_eq_true hb.1.1.1,fun c hc=>⟨(z4i cs).1 hb.1.2 c hc,z52a (z1ra hb.1.1.2 c hc)⟩,Nat.le_of_ble_eq_true hb.2,rfl⟩,Option.some.inj h⟩
 ·cases h
theorem z6yd (x y:List z0a) (l:List (List z0a)) (h:xBw x y=some l):z1mc.pre x y∧∀i,z1mc.el x y i=l[i]? :=by
 unfold xBw at h
 split at h
 ·rename_i nl n cs
  cases hb:(Nat.beq cs.length (n*16)&&z1Ma z8Uc cs&&Nat.ble n 1000000) with
  |false=>rw[hb] at h;cases h
  |true=>
   rw[hb] at h
   simp only[Bool.and_eq_true] at hb
   obtain⟨q,k1,k2,rfl⟩:=z0Hc hb.1.1 hb.1.2
   have h3:=Nat.le_of_ble_eq_true hb.2
   subst k2
   refine⟨⟨rfl,nl,q,k1,h3,rfl⟩,fun i=> ?_⟩
   rw[z2ac k1,←Option.some.inj h,List.getElem?_map]
   by_cases hi:i<q.length
   ·rw[if_pos hi,List.getElem?_range hi,Option.map_some]
    have e:=z8cb k1 (show q.length-1-i<q.length by omega)
    rw[←e]
    simp[bys]
   ·rw[if_neg hi,List.getElem?_eq_none (by simp;omega)];rfl
 ·cases h
theorem z32c (f:Nat→Option (List z0a)):∀(n:Nat) (l:List (List z0a)),z6ke f n=some l→l.length=n∧∀i<n,∃d,f i=some d∧l[i]? =some d
 |0,l,h=>by
  cases h
  exact⟨rfl,fun i hi=>absurd hi (Nat.not_lt_zero i)⟩
 |n+1,l,h=>by
  change(match z6ke f n,f n with|some l,some d=>some (l++[d])|_,_=>none)=some l at h
  split at h
  ·rename_i l0 d0 e1 e2
   obtain⟨k1,k2⟩:=z32c f n l0 e1
   have e:=(Option.some.inj h).symm
   subst e
   refine⟨by simp[k1],fun i hi=> ?_⟩
   by_cases hn:i<n
   ·obtain⟨d,h1,h2⟩:=k2 i hn
    exact⟨d,h1,by rw[List.getElem?_append_left (by omega),h2]⟩
   ·obtain rfl:i=n:=by omega
    exact⟨d0,e2,by rw[List.getElem?_append_right (by omega),k1,Nat.sub_self];rfl⟩
  ·cases h
theorem z80d {d:z0a} (h:z04c d=true):z0b d=true∧dem d=d∧yOk d=true∧z6c d=true:=by
 unfold z04c at h
 split at h
 ·rename_i l
  have e:=z02c h
  have m:z7a l=true:=by
   rw[e];generalize gBs l=b
   induction b with
   |nil=>rfl
   |cons a b ih=>
    show(z6c (u8 a)&&z7a (bys b))=true
    rw[ih];rfl
  refine⟨?_,rfl,?_,?_⟩
  ·rw[z0b,e];simp
  ·exact m
  ·exact m
 ·cases h
theorem z9vd (g:List z0a→Option z0a) (x y:List z0a) (l:List (List z0a)) (h:xDg g x y=some l):(z9yc (z5qa g)).pre x y∧∀i,(z9yc (z5qa g)).el x y i=l[i]? :=by
 unfold xDg at h
 split at h
 ·rename_i nl n cs
  cases hb:(Nat.beq cs.length (n*30)&&z1Ma z0db cs&&z8b cs&&z1Ma z90c cs&&Nat.ble n 1000000) with
  |false=>rw[hb] at h;cases h
  |true=>
   rw[hb] at h
   simp only[Bool.and_eq_true] at hb
   obtain⟨hl,hc⟩:=z32c _ n l h
   have hi:∀i,i<n→∃d,g [z4Qb cs i]=some d∧z04c d=true∧l[i]? =some [d]:=fun i h0=>by
    obtain⟨q,h1,h2⟩:=hc i h0
    obtain⟨d,h3,h4⟩:=Option.bind_eq_some_iff.1 h1
    cases hd:z04c d with
    |false=>rw[hd] at h4;cases h4
    |true=>rw[hd] at h4;cases h4;exact⟨d,h3,hd,h2⟩
   refine⟨⟨rfl,nl,n,cs,Nat.eq_of_beq_eq_true hb.1.1.1.1,Nat.le_of_ble_eq_true hb.2,fun d hd=>⟨(z4i cs).1 hb.1.1.2 d hd,z52a (z1ra hb.1.1.1.2 d hd),?_⟩,fun i h0=> ?_,rfl⟩,fun i=> ?_⟩
   ·have:=z1ra hb.1.2 d hd
    simpa[z90c] using this
   ·obtain⟨d,h1,h2,_⟩:=hi i h0
    have h3:=z80d h2
    simp only[z5qa,h1,Option.isSome_some,Option.getD_some]
    exact⟨trivial,h3.1,h3.2.1,h3.2.2.1,h3.2.2.2⟩
   ·rw[z9Sc]
    by_cases h0:i<n
    ·obtain⟨d,h1,_,h2⟩:=hi i h0
     rw[if_pos h0,h2]
     simp only[z5qa,h1,Option.getD_some]
    ·rw[if_neg h0,List.getElem?_eq_none (by omega)]
 ·cases h
theorem z2mc {K:Cx} {X:XE} (hT:X.T=K.E.T) {f:Nat} {c:ItC} (h:z3La (K.wX X) f c):z3La K f c:=
 ⟨h.1,fun S w x y vx vy B h1 h2 h3 hp l J Jx N hr=>h.2 S w x y vx vy B (fun n hn=>by have:=h1 n hn;simp only[Cx.wX,XE.env,hT];exact this) h2 ⟨h3.len,h3.at',h3.inj,h3.dom,h3.lt⟩ hp l J Jx N ⟨hr.start,hr.bound,hr.stab,hr.stabx,hr.round⟩⟩
def VLs (K:Cx):List (Nat×(List z0a→Option z0a))→Prop
 |[]=>True
 |p::l=>z1a K p.1 (z5qa p.2)∧VLs K l
theorem z1Zc {K:Cx}:∀{l:List (Nat×(List z0a→Option z0a))},VLs K l→∀a∈l.map Prod.fst,z1a K a (z5qa (lkG l a))
 |[],_,_,h=>by cases h
 |p::l,hl,a,h=>by
  show z1a K a (z5qa (bif Nat.beq p.1 a then p.2 else lkG l a))
  cases hb:Nat.beq p.1 a with
  |true=>rw[←Nat.eq_of_beq_eq_true hb];exact hl.1
  |false=>
   refine z1Zc hl.2 a ?_
   rcases List.mem_cons.1 h with rfl|h
   ·rw[Nat.beq_refl] at hb;cases hb
   ·exact h
section
variable {K : Cx} {X : XE} {f : Nat} {fn : Func} {F : z1ka} {n : Nat}
theorem rL {T:Nat→List z0a} {l:List (Nat×(List z0a→Option z0a))} (hf:K.P.funcs[K.nu f]? =some fn) (hc:(z3ta (K.wX (xGT T l)) F fn&&(z4a F.body).all (fun p=> !p.2&&(l.map Prod.fst).contains p.1)&&z9Aa F.body)=true) (hv:VLs K l) (hT:T=K.E.T):z1a K f (z5qa (z0cc (xGT T l) F n)):=by
 simp only[Bool.and_eq_true] at hc
 refine z2de hT hf hc.1.1 (fun p hp=> ?_) hc.2
 have h:=List.all_eq_true.1 hc.1.2 p hp
 obtain⟨a,b⟩:=p
 simp only[Bool.and_eq_true,Bool.not_eq_true',List.contains_eq_mem,decide_eq_true_eq] at h
 obtain rfl:b=false:=h.1
 exact vbG hT rfl (z1Zc hv a h.2)
theorem rG (l:List (Nat×Bool)) (hT:X.T=K.E.T) (hf:K.P.funcs[K.nu f]? =some fn) (hc:(z3ta (K.wX X) F fn&&(z4a F.body).all (fun p=>l.contains p)&&z9Aa F.body)=true) (hv:VBs (K.wX X) l):z1a K f (z5qa (z0cc X F n)):=by
 simp only[Bool.and_eq_true] at hc
 exact z2de hT hf hc.1.1 (z8pd hc.1.2 hv) hc.2
end
end Go.Abs
end

section
namespace Go.Abs
theorem z58d (ds:List z0a) (h:z6fd.pre ds):z67c ds=some (z6fd.post ds):=by
 obtain rfl:ds=[]:=h
 have h1:=z3ie
 generalize z67c []=o at h1⊢
 split at h1
 ·rename_i b
  rw[h1];rfl
 ·cases h1
end Go.Abs
end
