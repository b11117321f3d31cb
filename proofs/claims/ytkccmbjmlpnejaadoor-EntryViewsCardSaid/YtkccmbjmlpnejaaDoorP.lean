/- Lemmas: an abstract interpreter, and what the functions compute. -/
import Derived.Test.YtkccmbjmlpnejaaDoorN
import Derived.Test.YtkccmbjmlpnejaaDoorD
import Derived.KernelRfl
set_option linter.unusedSimpArgs false
set_option linter.unusedVariables false
set_option linter.unusedSectionVars false
section
namespace Go.Abs
set_option maxRecDepth 100000
def z20b:z5a:=⟨fun ds=>∃m:z3e,m.ok∧ds=[.agg (z2n m)],fun ds=>bo (z3ja (z1nb (gCs (nth ds 0))))⟩
theorem z75b {m:z3e} (h:m.ok):z20b.pre [.agg (z2n m)]=True:=eq_true ⟨m,h,rfl⟩
theorem z0Ya (m:z3e):z20b.post [.agg (z2n m)]=bo (z3ja m):=by
 show bo (z3ja (z1nb (z2n m)))=_
 rw[z48]
set_option maxHeartbeats 4000000 in
theorem z0uc (E:Env) (h295:E.G 295=z4Ib):∀ds,z20b.pre ds→ds.length=z9m.n∧awp E z9m.body (z1A z9m.res (z20b.post ds)) (z9c z9m.wr ds):=by
 rintro _ ⟨m,hm,rfl⟩
 rw[z0Ya]
 have hd:=hm.2.2.2.2.2.2.2
 have hl:=z8k hd
 obtain⟨Z,hZ⟩:∃Z,Z=z3ja m:=⟨_,rfl⟩
 rw[←hZ]
 refine⟨rfl,?_⟩
 simp only[z9m]
 refine z3a fun Q9 hQ9=> ?_
 refine z0X fun B hB=> ?_
 simp(maxSteps:=1000000) (disch:=first|omega|(simp;done)|(simp;omega)) [z9a,z1a,z0a,hl,z7n,z3r]
 rw[hB];clear hB
 rw[z4ea]
 refine z3a fun Q1 hQ1=> ?_
 rw[z5R]
 refine z2e fun T hT=> ?_
 simp(maxSteps:=1000000) (disch:=first|omega|(simp;done)|(simp;omega)) [z9a,z1a,z0a,z6X,hl,h295]
 by_cases c1:inR m.id 1 2147483647=true
 rotate_left
 ·refine z3m false 6 2 (by simp[c1]) (by rw[hT];kernel_rfl) (by rw[hT];kernel_rfl) ?_
  have hz:Z=false:=by rw[hZ];simp[z3ja,z0na,z3bb,z9wa,c1]
  simp(maxSteps:=1000000) (disch:=first|omega|(simp;done)|(simp;omega)) [z9a,z1a,z0a,hQ1,hQ9,hz]
 rw[hT];clear hT
 refine z2e fun T hT=> ?_
 simp(maxSteps:=1000000) (disch:=first|omega|(simp;done)|(simp;omega)) [z9a,z1a,z0a,z8U,hl,h295,c1]
 by_cases c2:inR m.ver 1 2147483647=true
 rotate_left
 ·refine z3m false 11 2 (by simp[c2]) (by rw[hT];kernel_rfl) (by rw[hT];kernel_rfl) ?_
  have hz:Z=false:=by rw[hZ];simp[z3ja,z0na,z3bb,z9wa,c2]
  simp(maxSteps:=1000000) (disch:=first|omega|(simp;done)|(simp;omega)) [z9a,z1a,z0a,hQ1,hQ9,hz]
 rw[hT];clear hT
 refine z2e fun T hT=> ?_
 simp(maxSteps:=1000000) (disch:=first|omega|(simp;done)|(simp;omega)) [z9a,z1a,z0a,z5V,hl,h295,c1,c2]
 by_cases c3:inR m.par 0 2147483647=true
 rotate_left
 ·refine z3m false 16 2 (by simp[c3]) (by rw[hT];kernel_rfl) (by rw[hT];kernel_rfl) ?_
  have hz:Z=false:=by rw[hZ];simp[z3ja,z0na,z3bb,z9wa,c3]
  simp(maxSteps:=1000000) (disch:=first|omega|(simp;done)|(simp;omega)) [z9a,z1a,z0a,hQ1,hQ9,hz]
 rw[hT];clear hT
 refine z2e fun T hT=> ?_
 simp(maxSteps:=1000000) (disch:=first|omega|(simp;done)|(simp;omega)) [z9a,z1a,z0a,z8X,hl,h295,c1,c2,c3]
 by_cases c4:inR m.ty 0 31=true
 rotate_left
 ·refine z3m false 21 2 (by simp[c4]) (by rw[hT];kernel_rfl) (by rw[hT];kernel_rfl) ?_
  have hz:Z=false:=by rw[hZ];simp[z3ja,z0na,z3bb,z9wa,c4]
  simp(maxSteps:=1000000) (disch:=first|omega|(simp;done)|(simp;omega)) [z9a,z1a,z0a,hQ1,hQ9,hz]
 rw[hT];clear hT
 refine z2e fun T hT=> ?_
 simp(maxSteps:=1000000) (disch:=first|omega|(simp;done)|(simp;omega)) [z9a,z1a,z0a,z3X,hl,h295,c1,c2,c3,c4]
 by_cases c5:z4Xa m.uses 956=0
 rotate_left
 ·refine z3m false 27 2 (by simp[c5]) (by rw[hT];kernel_rfl) (by rw[hT];kernel_rfl) ?_
  have hz:Z=false:=by rw[hZ];simp[z3ja,z0na,z3bb,z9wa,c5]
  simp(maxSteps:=1000000) (disch:=first|omega|(simp;done)|(simp;omega)) [z9a,z1a,z0a,hQ1,hQ9,hz]
 rw[hT];clear hT
 refine z2e fun T hT=> ?_
 simp(maxSteps:=1000000) (disch:=first|omega|(simp;done)|(simp;omega)) [z9a,z1a,z0a,z8W,hl,h295,c1,c2,c3,c4,c5]
 by_cases c6:inR m.beg 0 m.fin=true
 rotate_left
 ·refine z3m false 34 2 (by simp[c6]) (by rw[hT];kernel_rfl) (by rw[hT];kernel_rfl) ?_
  have hz:Z=false:=by rw[hZ];simp[z3ja,z0na,z3bb,z9wa,c6]
  simp(maxSteps:=1000000) (disch:=first|omega|(simp;done)|(simp;omega)) [z9a,z1a,z0a,hQ1,hQ9,hz]
 rw[hT];clear hT
 by_cases c7:inR m.fin 0 1099511627776=true
 rotate_left
 ·have hz:Z=false:=by rw[hZ];simp[z3ja,z0na,z3bb,z9wa,c7]
  simp(maxSteps:=1000000) (disch:=first|omega|(simp;done)|(simp;omega)) [z9a,z1a,z0a,hQ1,hQ9,hz,z8H,hl,h295,c1,c2,c3,c4,c5,c6,c7]
 have hz:Z=true:=by rw[hZ];simp[z3ja,z0na,z3bb,z9wa,c1,c2,c3,c4,c5,c6,c7]
 simp(maxSteps:=1000000) (disch:=first|omega|(simp;done)|(simp;omega)) [z9a,z1a,z0a,z8H,hl,h295,c1,c2,c3,c4,c5,c6,c7,hQ1,hQ9,hz]
def z3Sb:z2a:= .fn 297 [] [.ep [.fn 296 [] []]]
def z5Vb:z5a:=⟨fun ds=>∃m:z3e,m.ok∧ds=[.agg (z2n m),.ep [.fn 296 [] []]],fun ds=>bo (!z3ja (z1nb (gCs (nth ds 0))))⟩
theorem z3jb {m:z3e} (h:m.ok):z5Vb.pre [.agg (z2n m),.ep [.fn 296 [] []]]=True:=eq_true ⟨m,h,rfl⟩
theorem z4Ga (m:z3e):z5Vb.post [.agg (z2n m),.ep [.fn 296 [] []]]=bo (!z3ja m):=by
 show bo (!z3ja (z1nb (z2n m)))=_
 rw[z48]
theorem z5db (m:z3e):(∀c∈z2n m,z2d c)=True:=eq_true fun c hc=>(z5W c hc).2
theorem z93b (m:z3e):(∀c∈z2n m,z1f c=false)=True:=eq_true fun c hc=>by
 rcases List.mem_append.1 hc with h|h
 ·simp only[List.mem_cons,List.not_mem_nil,or_false] at h
  rcases h with rfl|rfl|rfl|rfl|rfl|rfl|rfl|rfl<;>rfl
 ·simp only[bys,List.mem_map] at h
  obtain⟨x,_,rfl⟩:=h
  rfl
theorem z9Xc {m:z3e} (h:m.dig.length=16):(z2n m).take 24=z2n m:=List.take_of_length_le (by rw[z8k h];exact Nat.le_refl _)
@[simp] theorem z6nc (m:z3e):z2h (z2n m)=true:=(z5m _).2 fun c hc=>(z5W c hc).1
@[simp] theorem z5xc (m:z3e):z7g (z2n m)=[]:=by simp[z2n,z7g]
theorem z6oc (E:Env) (h296:E.G 296=z20b):∀ds,z5Vb.pre ds→ds.length=z2m.n∧awp E z2m.body (z1A z2m.res (z5Vb.post ds)) (z9c z2m.wr ds):=by
 rintro _ ⟨m,hm,rfl⟩
 rw[z4Ga]
 have hd:=hm.2.2.2.2.2.2.2
 have hl:=z8k hd
 simp(maxSteps:=1000000) (disch:=first|omega|(simp;done)|(simp;omega)) [z9a,z1a,z0a,z2m,h296,z75b hm,z0Ya,hl,z5db,z93b,z9Xc hd,z0A]
/-! ### the first key that .. -/
def z2Ha (p:z3e→Bool) (l:List z3e):Int:=if l.findIdx p<l.length then(l.findIdx p:Int) else-1
def atM (l:List z3e) (i:Nat):z3e:=l.getD i z7sc
theorem z1da {l:List z3e} {i:Nat} (h:i<l.length):atM l i=l[i]:=by simp[atM,List.getD,List.getElem?_eq_getElem h]
theorem z5ta {l:List z3e} {i:Nat} (h:i<l.length):atM l i∈l:=by rw[z1da h];exact List.getElem_mem h
theorem z8Qa {p:z3e→Bool} {l:List z3e} {i:Nat} (hi:i<l.length) (h0:∀j<i,p (atM l j)=false) (h:p (atM l i)=true):z2Ha p l=i:=by
 have e:l.findIdx p=i:=by
  apply Nat.le_antisymm
  ·apply Nat.le_of_not_lt
   intro hlt
   have:=List.not_of_lt_findIdx (p:=p) (xs:=l) hlt
   rw[z1da hi] at h
   rw[h] at this
   cases this
  ·apply Nat.le_of_not_lt
   intro hlt
   have hl:l.findIdx p<l.length:=by omega
   have h1:p l[l.findIdx p]=true:=List.findIdx_getElem (w:=hl)
   have h2:=h0 _ hlt
   rw[z1da hl,h1] at h2
   cases h2
 rw[z2Ha,e,if_pos hi]
theorem z1Xa {p:z3e→Bool} {l:List z3e} (h0:∀j<l.length,p (atM l j)=false):z2Ha p l= -1:=by
 rw[z2Ha,if_neg]
 intro hl
 have h1:p l[l.findIdx p]=true:=List.findIdx_getElem (w:=hl)
 have h2:=h0 _ hl
 rw[z1da hl,h1] at h2
 cases h2
theorem z3yb (p:z3e→Bool) (l:List z3e):decide (0≤z2Ha p l)=l.any p:=by
 have:l.findIdx p<l.length↔l.any p=true:=by rw[List.findIdx_lt_length,List.any_eq_true]
 unfold z2Ha
 cases h:l.any p
 ·rw[if_neg (fun e=>by rw[this.1 e] at h;cases h)];rfl
 ·rw[if_pos (this.2 h)];simp
theorem z0wa {l:List z3e} (h:z5d l) {i:Nat} (hi:i<l.length):((z6b l).drop (i*24)).take 24=z2n (atM l i):=by
 have e1:=z5aa (enc:=z2n) (P:=z5Ea) (w:=24) (fun a ha=>z8k ha) l i (z2c h)
 have hd:=z2c h _ (List.getElem_mem hi)
 rw[show z6b l=l.flatMap z2n from rfl,e1,List.drop_eq_getElem_cons hi,List.flatMap_cons,List.take_left' (z8k hd),z1da hi]
theorem z2Va {l:List z3e} (h:z5d l) {i:Nat} (hi:i<l.length):i*24+24≤(z6b l).length:=by
 rw[z9d (z2c h)]
 omega
def z7Na:z5a:=⟨fun ds=>∃(nl:Option Bool) (l:List z3e),z5d l∧l.length≤1000000∧ds=[.sl .plain nl l.length (z6b l),z3Sb],fun ds=>i64 (z2Ha (fun m=> !z3ja m) (z7Y (gNn (nth ds 0)) (gCs (nth ds 0))))⟩
theorem z8Za {nl:Option Bool} {l:List z3e} (h:z5d l) (h1:l.length≤1000000):z7Na.pre [.sl .plain nl l.length (z6b l),.fn 297 [] [.ep [.fn 296 [] []]]]=True:=eq_true ⟨nl,l,h,h1,rfl⟩
theorem z8Pa (nl:Option Bool) {l:List z3e} (h:z5d l):z7Na.post [.sl .plain nl l.length (z6b l),.fn 297 [] [.ep [.fn 296 [] []]]]=i64 (z2Ha (fun m=> !z3ja m) l):=by
 show i64 (z2Ha (fun m=> !z3ja m) (z7Y l.length (z6b l)))=_
 rw[z2I (z2c h)]
set_option maxHeartbeats 4000000 in
theorem z3Vb (E:Env) (h297:E.G 297=z5Vb):∀ds,z7Na.pre ds→ds.length=z5b.n∧awp E z5b.body (z1A z5b.res (z7Na.post ds)) (z9c z5b.wr ds):=by
 rintro _ ⟨nl,l,h16,hl,rfl⟩
 unfold z3Sb
 rw[z8Pa nl h16]
 have hlen:=z9d (z2c h16)
 simp(maxSteps:=1000000) (disch:=first|omega|(simp;done)|(simp;omega)) [z9a,z1a,z0a,z5b]
 refine z3a fun Q0 hQ0=> ?_
 refine z4d (fun i:Nat=>⟨[(0,.sl .plain nl l.length (z6b l)),(1,.fn 297 [] [.ep [.fn 296 [] []]])],[(7,i64 l.length),(8,i64 i)],[]⟩)
  (fun i=>l.length-i) (fun i=>i≤l.length∧∀j<i,(!z3ja (atM l j))=false) 0 (by simp) (by simp) fun i hi=> ?_
 obtain⟨hi,he⟩:=hi
 refine z3a fun Q1 hQ1=> ?_
 by_cases h1:i<l.length
 ·have hm:=h16 _ (z5ta h1)
  have ha:=z0wa h16 h1
  have hle:=z2Va h16 h1
  have hle':i*24≤l.length*24:=by omega
  have hle2:24≤l.length*24-i*24:=by omega
  cases h2:z3ja (atM l i)
  ·have hR:=z8Qa (p:=fun m=> !z3ja m) h1 he (by rw[h2];rfl)
   simp(maxSteps:=1000000) (disch:=first|omega|(simp;done)|(simp;omega)) [z9a,z1a,z0a,z7e,z8h,kT,kF,dT,dF,h1,ha,hlen,hle',hle2,h297,z3jb hm,z4Ga,h2,z0A,hQ1,hQ0,hR]
  ·simp(maxSteps:=1000000) (disch:=first|omega|(simp;done)|(simp;omega)) [z9a,z1a,z0a,z7e,z8h,kT,kF,dT,dF,h1,ha,hlen,hle',hle2,h297,z3jb hm,z4Ga,h2,z0A,hQ1]
   refine⟨i+1,by omega,⟨by omega,fun j hj=> ?_⟩,by omega⟩
   rcases Nat.lt_or_eq_of_le (Nat.lt_succ_iff.1 hj) with h|h
   ·simpa using he j h
   ·rw[h];simpa using h2
 ·have hl':i=l.length:=by omega
  have hR:=z1Xa (p:=fun m=> !z3ja m) (l:=l) (fun j hj=>he j (by omega))
  simp(maxSteps:=1000000) (disch:=first|omega|(simp;done)|(simp;omega)) [z9a,z1a,z0a,z7e,kT,kF,dT,dF,h1,hQ1,hQ0,z9l,hR]
def z3Xa:z5a:=⟨z7Na.pre,fun ds=>bo (!(z7Y (gNn (nth ds 0)) (gCs (nth ds 0))).all z3ja)⟩
theorem z4Fa {nl:Option Bool} {l:List z3e} (h:z5d l) (h1:l.length≤1000000):z3Xa.pre [.sl .plain nl l.length (z6b l),.fn 297 [] [.ep [.fn 296 [] []]]]=True:=z8Za h h1
theorem z1fa (nl:Option Bool) {l:List z3e} (h:z5d l):z3Xa.post [.sl .plain nl l.length (z6b l),.fn 297 [] [.ep [.fn 296 [] []]]]=bo (!l.all z3ja):=by
 show bo (!(z7Y l.length (z6b l)).all z3ja)=_
 rw[z2I (z2c h)]
theorem z27b (E:Env) (h313:E.G 313=z7Na):∀ds,z3Xa.pre ds→ds.length=z0b.n∧awp E z0b.body (z1A z0b.res (z3Xa.post ds)) (z9c z0b.wr ds):=by
 rintro _ ⟨nl,l,h16,hl,rfl⟩
 unfold z3Sb
 rw[z1fa nl h16,List.all_eq_not_any_not,Bool.not_not,←z3yb]
 simp(maxSteps:=1000000) (disch:=first|omega|(simp;done)|(simp;omega)) [z9a,z1a,z0a,z0b,h313,z8Za h16 hl,z8Pa nl h16,z4fa,z6n,z9q]
end Go.Abs
end

section
namespace Go.Abs
set_option maxRecDepth 100000
theorem z9la (n lo hi:Int):inR n lo hi=true↔lo≤n∧n≤hi:=by simp[inR]
theorem z1la {x:z9o} (h:okE x=true):0≤x.time∧x.time≤1099511627776∧0≤x.req∧x.req≤2147483647∧1≤x.mode∧x.mode≤5∧x.made.length≤4096∧x.gone.length≤4096:=by
 simp only[okE,z9la,Bool.and_eq_true,decide_eq_true_eq] at h
 simp only[z0na,z3bb] at h
 omega
theorem z5fa:z5J.small:=by
 refine⟨⟨?_,?_,?_,?_,?_,?_,?_⟩,by simp[z5J],by simp[z5J]⟩<;>simp[z5J,z2l]
theorem z5ba {t m:Int} (ht:z2l t) (hm:z2l m):(z9Ha t m).small:=by
 refine⟨⟨ht,by simp[z9Ha,z2l],by simp[z9Ha,z2l],hm,z5fa.1,rfl,fun _ h=>(by cases h),fun _ h=>(by cases h)⟩,z5fa,by simp[z9Ha],by simp[z9Ha]⟩
set_option maxHeartbeats 8000000 in
theorem z6Zb (E:Env) (h295:E.G 295=z4Ib) (h298:E.G 298=z3Xa) (h294:E.G 294=z5Lb) (h299:E.G 299=z2Pa) (h293:E.G 293=z3Pb):∀ds,z3Jb.pre ds→ds.length=z7p.n∧awp E z7p.body (z1A z7p.res (z3Jb.post ds)) (z9c z7p.wr ds):=by
 rintro _ ⟨nc,nm,ng,x,hx,rfl⟩
 rw[z5pa hx]
 have hm16:=hx.1.2.2.2.2.2.2.1
 have hd:=hx.1.2.2.2.2.2.1
 have hml:=hx.2.2.1
 have hgl:=hx.2.2.2
 have hmp:=z5ba hx.1.1 hx.1.2.2.2.1
 have hl:=z8d (nc:=nc) (nm:=nm) (ng:=ng) hd
 have htk:=z1r (nc:=nc) (nm:=nm) (ng:=ng) hd
 have h28:=z1ma (nc:=nc) (nm:=nm) (ng:=ng) hd
 have h29:=z1na (nc:=nc) (nm:=nm) (ng:=ng) hd
 obtain⟨Z,hZ⟩:∃Z,Z=okE x:=⟨_,rfl⟩
 rw[←hZ]
 refine⟨rfl,?_⟩
 simp only[z7p]
 refine z3a fun Q9 hQ9=> ?_
 refine z0X fun B hB=> ?_
 simp(maxSteps:=1000000) (disch:=first|omega|(simp;done)|(simp;omega)) [z9a,z1a,z0a,hl]
 rw[hB];clear hB
 rw[z4ea]
 refine z3a fun Q1 hQ1=> ?_
 rw[z4ea]
 refine z3a fun Q2 hQ2=> ?_
 rw[z5R]
 refine z2e fun T hT=> ?_
 simp(maxSteps:=1000000) (disch:=first|omega|(simp;done)|(simp;omega)) [z9a,z1a,z0a,z55,hl,h295,h28,h29]
 by_cases c1:inR x.time 0 1099511627776=true
 rotate_left
 ·refine z3m true 8 31 (by simp[c1]) (by rw[hT];kernel_rfl) (by rw[hT];kernel_rfl) ?_
  have hz:Z=false:=by
   cases hc:okE x
   ·rw[hZ,hc]
   ·have hq:=z1la hc
    exfalso
    first|omega|(have:=mt (z9la _ _ _).2 c1;omega)
  simp(maxSteps:=1000000) (disch:=first|omega|(simp;done)|(simp;omega)) [z9a,z1a,z0a,hQ2,hQ1,hQ9,kT,hz]
 rw[hT];clear hT
 refine z2e fun T hT=> ?_
 simp(maxSteps:=1000000) (disch:=first|omega|(simp;done)|(simp;omega)) [z9a,z1a,z0a,z06,hl,h295,h28,h29,c1]
 by_cases c2:inR x.req 0 2147483647=true
 rotate_left
 ·refine z3m true 14 31 (by simp[c2]) (by rw[hT];kernel_rfl) (by rw[hT];kernel_rfl) ?_
  have hz:Z=false:=by
   cases hc:okE x
   ·rw[hZ,hc]
   ·have hq:=z1la hc
    exfalso
    first|omega|(have:=mt (z9la _ _ _).2 c2;omega)
  simp(maxSteps:=1000000) (disch:=first|omega|(simp;done)|(simp;omega)) [z9a,z1a,z0a,hQ2,hQ1,hQ9,kT,hz]
 rw[hT];clear hT
 refine z2e fun T hT=> ?_
 simp(maxSteps:=1000000) (disch:=first|omega|(simp;done)|(simp;omega)) [z9a,z1a,z0a,z35,hl,h295,h28,h29,c1,c2]
 by_cases c3:inR x.mode 1 5=true
 rotate_left
 ·refine z3m true 20 31 (by simp[c3]) (by rw[hT];kernel_rfl) (by rw[hT];kernel_rfl) ?_
  have hz:Z=false:=by
   cases hc:okE x
   ·rw[hZ,hc]
   ·have hq:=z1la hc
    exfalso
    first|omega|(have:=mt (z9la _ _ _).2 c3;omega)
  simp(maxSteps:=1000000) (disch:=first|omega|(simp;done)|(simp;omega)) [z9a,z1a,z0a,hQ2,hQ1,hQ9,kT,hz]
 rw[hT];clear hT
 refine z2e fun T hT=> ?_
 simp(maxSteps:=1000000) (disch:=first|omega|(simp;done)|(simp;omega)) [z9a,z1a,z0a,z74,hl,h295,h28,h29,c1,c2,c3]
 by_cases n4:4096<(x.made.length:Int)
 ·refine z3m true 26 31 (by simp[n4]) (by rw[hT];kernel_rfl) (by rw[hT];kernel_rfl) ?_
  have hz:Z=false:=by
   cases hc:okE x
   ·rw[hZ,hc]
   ·have hq:=z1la hc
    exfalso
    first|omega|(have:=mt (z9la _ _ _).2 n4;omega)
  simp(maxSteps:=1000000) (disch:=first|omega|(simp;done)|(simp;omega)) [z9a,z1a,z0a,hQ2,hQ1,hQ9,kT,hz]
 rw[hT];clear hT
 by_cases n5:4096<(x.gone.length:Int)
 ·have hz:Z=false:=by
   cases hc:okE x
   ·rw[hZ,hc]
   ·have hq:=z1la hc
    exfalso
    first|omega|(have:=mt (z9la _ _ _).2 n5;omega)
  simp(maxSteps:=1000000) (disch:=first|omega|(simp;done)|(simp;omega)) [z9a,z1a,z0a,hQ2,hQ1,hQ9,kT,hz,z7P,hl,h295,h28,h29,c1,c2,c3,n4,n5]
 simp(maxSteps:=1000000) (disch:=first|omega|(simp;done)|(simp;omega)) [z9a,z1a,z0a,z7P,hl,h295,h28,h29,c1,c2,c3,n4,n5,hQ2,hQ1,kF]
 have q4:x.made.length≤4096:=by omega
 have q5:x.gone.length≤4096:=by omega
 cases c6:x.made.all z3ja
 ·have hz:Z=false:=by simp only[hZ,okE,c6];simp
  simp(maxSteps:=1000000) (disch:=first|omega|(simp;done)|(simp;omega)) [z9a,z1a,z0a,z6C,h298,z4Fa hm16 hml,z1fa nm hm16,z4fa,z6n,z9q,hl,c6,h28,kT,kF,hQ9,hz]
 have hzz:Z=if x.kind=0 then z3da x (z9Ha x.time x.mode) else inR x.kind 1 27&&(x.cmd.kind==x.kind)&&(!z5Pb x.kind||decide (x.cmd.data=[])):=by
  simp only[hZ,okE,c6,c3,q4,q5,z3bb,z0na,c1,c2,decide_true,Bool.true_and,Bool.and_true]
 by_cases hk:x.kind=0
 ·rw[if_pos hk] at hzz
  simp(maxSteps:=1000000) (disch:=first|omega|(simp;done)|(simp;omega)) [z9a,z1a,z0a,z6C,z5P,h298,z4Fa hm16 hml,z1fa nm hm16,z4fa,z6n,z9q,hl,htk,c6,h28,kT,kF,hk,h294,h299,z80a hx hmp,z4ra hx hmp,hQ9,hzz]
 rw[if_neg hk] at hzz
 have hk':(x.kind==0)=false:=by simpa using hk
 simp(maxSteps:=1000000) (disch:=first|omega|(simp;done)|(simp;omega)) [z9a,z1a,z0a,z6C,z5P,h298,z4Fa hm16 hml,z1fa nm hm16,z4fa,z6n,z9q,hl,c6,h28,kT,kF,hk,hk']
 simp only[z05]
 rw[z4ea]
 refine z3a fun Q3 hQ3=> ?_
 rw[z5R]
 by_cases c7:inR x.kind 1 27=true
 rotate_left
 ·have hz:Z=false:=by rw[hzz];simp[c7]
  simp(maxSteps:=1000000) (disch:=first|omega|(simp;done)|(simp;omega)) [z9a,z1a,z0a,z2P,z5C,z6t,hl,h295,c7,hQ3,hQ9,hz]
 refine z2e fun T hT=> ?_
 simp(maxSteps:=1000000) (disch:=first|omega|(simp;done)|(simp;omega)) [z9a,z1a,z0a,z2P,hl,h295,c7]
 rw[hT];clear hT
 by_cases c8:x.cmd.kind=x.kind
 rotate_left
 ·have hz:Z=false:=by rw[hzz];simp[c8]
  have c8':(x.cmd.kind==x.kind)=false:=by simpa using c8
  simp(maxSteps:=1000000) (disch:=first|omega|(simp;done)|(simp;omega)) [z9a,z1a,z0a,z5C,z6t,hl,c7,c8',hQ3,hQ9,hz]
 refine z2e fun T hT=> ?_
 simp(maxSteps:=1000000) (disch:=first|omega|(simp;done)|(simp;omega)) [z9a,z1a,z0a,z5C,hl,h295,c7,c8]
 rw[hT];clear hT
 cases c9:z5Pb x.kind
 ·have hz:Z=true:=by rw[hzz];simp[c7,c8,c9]
  simp(maxSteps:=1000000) (disch:=first|omega|(simp;done)|(simp;omega)) [z9a,z1a,z0a,z6t,h293,hl,c7,c8,c9,hQ3,hQ9,hz]
 have hz:Z=decide (x.cmd.data=[]):=by rw[hzz];simp[c7,c8,c9]
 simp(maxSteps:=1000000) (disch:=first|omega|(simp;done)|(simp;omega)) [z9a,z1a,z0a,z6t,h293,hl,c7,c8,c9,hQ3,hQ9,hz]
end Go.Abs
end

section
namespace Go.Abs
set_option maxRecDepth 100000
theorem z09b {l:List UInt8} (h:l.length=16):∃a b c d e f g i j k m n o p q r,l=[a,b,c,d,e,f,g,i,j,k,m,n,o,p,q,r]:=by
 match l,h with
 |[a,b,c,d,e,f,g,i,j,k,m,n,o,p,q,r],_=>exact⟨a,b,c,d,e,f,g,i,j,k,m,n,o,p,q,r,rfl⟩
theorem eqM {x y:z3e} (hx:x.dig.length=16) (hy:y.dig.length=16):z6P kM (z2n x) (z2n y)=decide (x=y):=by
 obtain⟨x1,x2,x3,x4,x5,x6,x7,x8,xd⟩:=x
 obtain⟨y1,y2,y3,y4,y5,y6,y7,y8,yd⟩:=y
 simp only at hx hy
 obtain⟨a,b,c,d,e,f,g,i,j,k,m,n,o,p,q,r,rfl⟩:=z09b hx
 obtain⟨a',b',c',d',e',f',g',i',j',k',m',n',o',p',q',r',rfl⟩:=z09b hy
 have h8:∀u v:UInt8,((u.toNat:Int)==v.toNat)=(u==v):=fun u v=>by
  rw[Bool.eq_iff_iff,beq_iff_eq,beq_iff_eq]
  constructor
  ·intro h;exact UInt8.toNat_inj.1 (by omega)
  ·rintro rfl;rfl
 rw[Bool.eq_iff_iff]
 simp[kM,z6P,z5Kc,z2n,bys,h8,z3e.mk.injEq]
theorem z34b {x:z3e} (hx:x.dig.length=16):z3A kM (z2n x)=True:=by
 obtain⟨x1,x2,x3,x4,x5,x6,x7,x8,xd⟩:=x
 simp only at hx
 obtain⟨a,b,c,d,e,f,g,i,j,k,m,n,o,p,q,r,rfl⟩:=z09b hx
 refine eq_true ?_
 repeat' first|exact trivial|exact rfl|refine And.intro ?_ ?_
def z9ua:z5a:=⟨fun ds=>∃(nl nl':Option Bool) (a b:List z3e),z5d a∧z5d b∧a.length≤1000000∧ds=[.sl .plain nl a.length (z6b a),.sl .plain nl' b.length (z6b b)],
 fun ds=>bo (decide (z7Y (gNn (nth ds 0)) (gCs (nth ds 0))=z7Y (gNn (nth ds 1)) (gCs (nth ds 1))))⟩
theorem z5eb {nl nl':Option Bool} {a b:List z3e} (h:z5d a) (h':z5d b) (hl:a.length≤1000000):z9ua.pre [.sl .plain nl a.length (z6b a),.sl .plain nl' b.length (z6b b)]=True:=eq_true ⟨nl,nl',a,b,h,h',hl,rfl⟩
theorem z8Aa (nl nl':Option Bool) {a b:List z3e} (h:z5d a) (h':z5d b):z9ua.post [.sl .plain nl a.length (z6b a),.sl .plain nl' b.length (z6b b)]=bo (decide (a=b)):=by
 show bo (decide (z7Y a.length (z6b a)=z7Y b.length (z6b b)))=_
 rw[z2I (z2c h),z2I (z2c h')]
theorem z7Xb {a b:List z3e} (h:a.length=b.length) (he:a.take a.length=b.take a.length):a=b:=by
 rw[List.take_length,h,List.take_length] at he
 exact he
set_option maxHeartbeats 4000000 in
theorem z9xb (E:Env):∀ds,z9ua.pre ds→ds.length=z4g.n∧awp E z4g.body (z1A z4g.res (z9ua.post ds)) (z9c z4g.wr ds):=by
 rintro _ ⟨nl,nl',a,b,ha,hb,hl,rfl⟩
 rw[z8Aa nl nl' ha hb]
 by_cases h:a.length=b.length
 rotate_left
 ·have hz:decide (a=b)=false:=by simpa using fun e:a=b=>h (by rw[e])
  have h':¬((a.length:Int)=b.length):=by omega
  simp(maxSteps:=1000000) (disch:=first|omega|(simp;done)|(simp;omega)) [z9a,z1a,z0a,z4g,z2v,h',kT,kF,hz]
 have h':((a.length:Int)=b.length):=by omega
 have hla:=z9d (z2c ha)
 have hlb:=z9d (z2c hb)
 simp(maxSteps:=1000000) (disch:=first|omega|(simp;done)|(simp;omega)) [z9a,z1a,z0a,z4g,z2v,h',kT,kF]
 refine z3a fun Q0 hQ0=> ?_
 refine z4d (fun i:Nat=>⟨[(0,.sl .plain nl a.length (z6b a)),(1,.sl .plain nl' b.length (z6b b))],[(12,i64 a.length),(13,i64 i)],[]⟩)
  (fun i=>a.length-i) (fun i=>i≤a.length∧a.take i=b.take i) 0 (by simp[h']) (by simp) fun i hi=> ?_
 obtain⟨hi,he⟩:=hi
 refine z3a fun Q1 hQ1=> ?_
 by_cases h1:i<a.length
 ·have h3:i<b.length:=by omega
  have e1:=z0wa ha h1
  have e2:=z0wa hb h3
  have l1:24≤a.length*24-i*24:=by omega
  have l2:24≤b.length*24-i*24:=by omega
  have l3:i*24≤a.length*24:=by omega
  have l4:i*24≤b.length*24:=by omega
  have d1:=(ha _ (z5ta h1)).2.2.2.2.2.2.2
  have d2:=(hb _ (z5ta h3)).2.2.2.2.2.2.2
  have hq:=eqM d1 d2
  have ho1:=z34b d1
  have ho2:=z34b d2
  by_cases h2:atM a i=atM b i
  ·rw[←h2] at e2 ho2 hq
   simp only[decide_true] at hq
   simp(maxSteps:=1000000) (disch:=first|omega|(simp;done)|(simp;omega)) [z9a,z1a,z0a,z5p,z1v,kT,kF,dT,dF,h1,h3,hla,hlb,e1,e2,l1,l2,l3,l4,hq,ho1,hQ1]
   refine⟨i+1,by omega,⟨by omega,?_⟩,by omega⟩
   rw[List.take_succ_eq_append_getElem h1,List.take_succ_eq_append_getElem h3,he,←z1da h1,←z1da h3,h2]
  ·have hz:decide (a=b)=false:=by simpa using fun e:a=b=>h2 (by rw[e])
   have hq':z6P kM (z2n (atM a i)) (z2n (atM b i))=false:=by rw[hq];simpa using h2
   simp(maxSteps:=1000000) (disch:=first|omega|(simp;done)|(simp;omega)) [z9a,z1a,z0a,z5p,z1v,kT,kF,dT,dF,h1,h3,hla,hlb,e1,e2,l1,l2,l3,l4,hq',ho1,ho2,hQ1,hQ0,hz]
 ·have e:i=a.length:=by omega
  subst e
  have hz:decide (a=b)=true:=by simpa using z7Xb h he
  simp(maxSteps:=1000000) (disch:=first|omega|(simp;done)|(simp;omega)) [z9a,z1a,z0a,z5p,z9I,kT,kF,dT,dF,hQ1,hQ0,hz]
theorem z1ub (a b:List Int):decide (a=b)=(a==b):=by rw[Bool.eq_iff_iff];simp
set_option maxHeartbeats 8000000 in
theorem z1Eb (E:Env) (h133:E.G 133=z4na) (h301:E.G 301=z9ua) (h132:E.G 132=z85):∀ds,z2Pa.pre ds→ds.length=z4s.n∧awp E z4s.body (z1A z4s.res (z2Pa.post ds)) (z9c z4s.wr ds):=by
 rintro _ ⟨nc,nm,ng,nc',nm',ng',x,y,hx,hy,rfl⟩
 rw[z4ra hx hy]
 have hd:=hx.1.2.2.2.2.2.1
 have hd':=hy.1.2.2.2.2.2.1
 have hl:=z8d (nc:=nc) (nm:=nm) (ng:=ng) hd
 have hl':=z8d (nc:=nc') (nm:=nm') (ng:=ng') hd'
 have h28:=z1ma (nc:=nc) (nm:=nm) (ng:=ng) hd
 have h29:=z1na (nc:=nc) (nm:=nm) (ng:=ng) hd
 have h28':=z1ma (nc:=nc') (nm:=nm') (ng:=ng') hd'
 have h29':=z1na (nc:=nc') (nm:=nm') (ng:=ng') hd'
 have hg:=z8Ca (nc:=nc) (nm:=nm) (ng:=ng) hd
 have hg':=z8Ca (nc:=nc') (nm:=nm') (ng:=ng') hd'
 have hm:=hx.1.2.2.2.2.2.2.1
 have hm':=hy.1.2.2.2.2.2.2.1
 have hgl:=hx.2.2.2
 obtain⟨Z,hZ⟩:∃Z,Z=z3da x y:=⟨_,rfl⟩
 rw[←hZ]
 have eqd:=z1b hd hd'
 have p1:=z5nb (nl:=nc) (nl':=nc') hx.2.1 hy.2.1
 have q1:=z0ya x.cmd y.cmd nc nc'
 have p2:=z5eb (nl:=nm) (nl':=nm') hm hm' hx.2.2.1
 have q2:=z8Aa nm nm' hm hm'
 refine⟨rfl,?_⟩
 simp only[z4s]
 refine z3a fun Q9 hQ9=> ?_
 refine z0X fun B hB=> ?_
 simp(maxSteps:=1000000) (disch:=first|omega|(simp;done)|(simp;omega)) [z9a,z1a,z0a,hl,hl']
 rw[hB];clear hB
 rw[z4ea]
 refine z3a fun Q1 hQ1=> ?_
 rw[z5R]
 refine z2e fun T hT=> ?_
 simp(maxSteps:=1000000) (disch:=first|omega|(simp;done)|(simp;omega)) [z9a,z1a,z0a,z07,hl,hl',h28,h29,h28',h29',hg,hg',eqd,hd,hd',h133,h301,h132,p1,q1,p2,q2]
 by_cases c1:x.time=y.time
 rotate_left
 ·refine z3m false 10 4 (by simp[c1]) (by rw[hT];kernel_rfl) (by rw[hT];kernel_rfl) ?_
  have hz:Z=false:=by rw[hZ];simp[z3da,c1]
  simp(maxSteps:=1000000) (disch:=first|omega|(simp;done)|(simp;omega)) [z9a,z1a,z0a,hQ1,hQ9,hz]
 rw[hT];clear hT
 refine z2e fun T hT=> ?_
 simp(maxSteps:=1000000) (disch:=first|omega|(simp;done)|(simp;omega)) [z9a,z1a,z0a,z49,hl,hl',h28,h29,h28',h29',hg,hg',eqd,hd,hd',h133,h301,h132,p1,q1,p2,q2,c1]
 by_cases c2:x.kind=y.kind
 rotate_left
 ·refine z3m false 17 4 (by simp[c2]) (by rw[hT];kernel_rfl) (by rw[hT];kernel_rfl) ?_
  have hz:Z=false:=by rw[hZ];simp[z3da,c2]
  simp(maxSteps:=1000000) (disch:=first|omega|(simp;done)|(simp;omega)) [z9a,z1a,z0a,hQ1,hQ9,hz]
 rw[hT];clear hT
 refine z2e fun T hT=> ?_
 simp(maxSteps:=1000000) (disch:=first|omega|(simp;done)|(simp;omega)) [z9a,z1a,z0a,z66,hl,hl',h28,h29,h28',h29',hg,hg',eqd,hd,hd',h133,h301,h132,p1,q1,p2,q2,c1,c2]
 by_cases c3:x.req=y.req
 rotate_left
 ·refine z3m false 24 4 (by simp[c3]) (by rw[hT];kernel_rfl) (by rw[hT];kernel_rfl) ?_
  have hz:Z=false:=by rw[hZ];simp[z3da,c3]
  simp(maxSteps:=1000000) (disch:=first|omega|(simp;done)|(simp;omega)) [z9a,z1a,z0a,hQ1,hQ9,hz]
 rw[hT];clear hT
 refine z2e fun T hT=> ?_
 simp(maxSteps:=1000000) (disch:=first|omega|(simp;done)|(simp;omega)) [z9a,z1a,z0a,z37,hl,hl',h28,h29,h28',h29',hg,hg',eqd,hd,hd',h133,h301,h132,p1,q1,p2,q2,c1,c2,c3]
 by_cases c4:x.mode=y.mode
 rotate_left
 ·refine z3m false 31 4 (by simp[c4]) (by rw[hT];kernel_rfl) (by rw[hT];kernel_rfl) ?_
  have hz:Z=false:=by rw[hZ];simp[z3da,c4]
  simp(maxSteps:=1000000) (disch:=first|omega|(simp;done)|(simp;omega)) [z9a,z1a,z0a,hQ1,hQ9,hz]
 rw[hT];clear hT
 refine z2e fun T hT=> ?_
 simp(maxSteps:=1000000) (disch:=first|omega|(simp;done)|(simp;omega)) [z9a,z1a,z0a,z96,hl,hl',h28,h29,h28',h29',hg,hg',eqd,hd,hd',h133,h301,h132,p1,q1,p2,q2,c1,c2,c3,c4]
 by_cases c5:x.dig=y.dig
 rotate_left
 ·refine z3m false 38 4 (by simp[c5]) (by rw[hT];kernel_rfl) (by rw[hT];kernel_rfl) ?_
  have hz:Z=false:=by rw[hZ];simp[z3da,c5]
  simp(maxSteps:=1000000) (disch:=first|omega|(simp;done)|(simp;omega)) [z9a,z1a,z0a,hQ1,hQ9,hz]
 rw[hT];clear hT
 refine z2e fun T hT=> ?_
 simp(maxSteps:=1000000) (disch:=first|omega|(simp;done)|(simp;omega)) [z9a,z1a,z0a,z77,hl,hl',h28,h29,h28',h29',hg,hg',eqd,hd,hd',h133,h301,h132,p1,q1,p2,q2,c1,c2,c3,c4,c5]
 by_cases c6:z2mb x.cmd y.cmd=true
 rotate_left
 ·refine z3m false 45 4 (by simp[c6]) (by rw[hT];kernel_rfl) (by rw[hT];kernel_rfl) ?_
  have hz:Z=false:=by rw[hZ];simp[z3da,c6]
  simp(maxSteps:=1000000) (disch:=first|omega|(simp;done)|(simp;omega)) [z9a,z1a,z0a,hQ1,hQ9,hz]
 rw[hT];clear hT
 refine z2e fun T hT=> ?_
 simp(maxSteps:=1000000) (disch:=first|omega|(simp;done)|(simp;omega)) [z9a,z1a,z0a,z87,hl,hl',h28,h29,h28',h29',hg,hg',eqd,hd,hd',h133,h301,h132,p1,q1,p2,q2,c1,c2,c3,c4,c5,c6]
 by_cases c7:x.made=y.made
 rotate_left
 ·refine z3m false 52 4 (by simp[c7]) (by rw[hT];kernel_rfl) (by rw[hT];kernel_rfl) ?_
  have hz:Z=false:=by rw[hZ];simp[z3da,c7]
  simp(maxSteps:=1000000) (disch:=first|omega|(simp;done)|(simp;omega)) [z9a,z1a,z0a,hQ1,hQ9,hz]
 rw[hT];clear hT
 have hz:Z=(x.gone==y.gone):=by
  rw[←z1ub,hZ]
  simp[z3da,c1,c2,c3,c4,c5,c6,c7]
 simp(maxSteps:=1000000) (disch:=first|omega|(simp;done)|(simp;omega)) [z9a,z1a,z0a,z76,hl,hl',h28,h29,h28',h29',hg,hg',eqd,hd,hd',h133,h301,h132,p1,q1,p2,q2,z5Ha,c1,c2,c3,c4,c5,c6,c7,hQ1,hQ9,hz]
end Go.Abs
end

section
namespace Go.Abs
set_option maxRecDepth 100000
theorem z3Ua:∀(l:List z3e) (n:Int),z0Za l n=true↔∀j<l.length,(atD l j).id=n+j
 |[],n=>by simp[z0Za]
 |a::l,n=>by
  rw[z0Za,Bool.and_eq_true,beq_iff_eq,z3Ua l (n+1)]
  constructor
  ·rintro⟨h1,h2⟩ j hj
   cases j with
   |zero=>simpa[atD] using h1
   |succ j=>
    have:=h2 j (by simpa using hj)
    simp only[atD,List.getD_cons_succ] at this⊢
    omega
  ·intro h
   refine⟨by simpa[atD] using h 0 (by simp),fun j hj=> ?_⟩
   have:=h (j+1) (by simpa using hj)
   simp only[atD,List.getD_cons_succ] at this⊢
   omega
theorem z1R:z6b []=[]:=rfl
end Go.Abs
end
