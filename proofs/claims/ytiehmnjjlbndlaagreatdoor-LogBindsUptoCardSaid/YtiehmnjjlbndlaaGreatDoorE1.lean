/- Lemmas. -/
import Derived.Test.YtiehmnjjlbndlaaGreatDoorD1
set_option linter.all false
namespace Go.Abs
def oX(g:List oH->Option oH):aW:=⟨λds=>(g ds).isSome=true,λds=>(g ds).getD .undef⟩
def DE(m:XM):CM:=⟨m.bx,m.nb,λds=>(m.run ds).isSome=true,λds=>((m.run ds).getD (.undef,λ_=>[])).1,λds=>((m.run ds).getD (.undef,λ_=>[])).2⟩
def Sk(m:XW):CW:=⟨m.hold,m.bx,[],λds bs=>(m.run ds bs).isSome=true,λds bs=>((m.run ds bs).getD (.undef,λ_=>[])).1,λds bs=>((m.run ds bs).getD (.undef,λ_=>[])).2⟩
def Nj(g:List oH->List oH->Option (List (List oH))):ItC:=⟨λx y=>(g x y).isSome=true,λx y i=>((g x y).getD [])[i]?,[]⟩
def Cx.wX(K:Cx)(X:XE):Cx:={K with E:=X.env}
section
variable {K : Cx} {X : XE}
theorem BW{f:Nat}{c:aW}{x:List oH->Option oH}(hv:oK K f c)(h:∀ds v,x ds=some v->c.pre ds∧c.post ds=v):oK K f (oX x):=by
 refine⟨hv.1,λS w ds vs hg hd hp=> ?_⟩;simp only[oX] at hp⊢;cases hx:x ds with
 |none=>rw[hx] at hp;cases hp
 |some v=>obtain⟨h1,h2⟩:=h ds v hx;rw[Option.getD_some,<-h2];exact hv.2 S w ds vs hg hd h1
theorem ZO{f:Nat}{c:aW}{x:List oH->Option oH}(hv:oK K f (oX x))(h:∀ds,c.pre ds->x ds=some (c.post ds)):oK K f c:=by refine⟨hv.1,λS w ds vs hg hd hp=> ?_⟩;have h1:=hv.2 S w ds vs hg hd (by simp only[oX,h ds hp];rfl);simp only[oX,h ds hp,Option.getD_some] at h1;exact h1
theorem Lf{f:Nat}{c:ItC}{x:List oH->List oH->Option (List (List oH))}(hv:uu K f c)(hl:c.lv=[])(h:∀a b l,x a b=some l->c.pre a b∧∀i,c.el a b i=l[i]?):uu K f (Nj x):=by
 refine⟨hv.1,λS w a b va vb B hg ha hb hp l J Jx N hR=> ?_⟩;simp only[Nj] at hp hR hb⊢;cases hx:x a b with
 |none=>rw[hx] at hp;cases hp
 |some r=>obtain⟨h1,h2⟩:=h a b r hx;have he:(λi=>((some r).getD [])[i]?)=c.el a b:=funext λi=>(h2 i).symm;rw[hx] at hR;have:=hv.2 S w a b va vb B hg ha (by rw[hl];exact hb) h1 l J Jx N (by rw[<-he];exact hR);rw[show c.el a b=λi=>((some r).getD [])[i]? from he.symm] at this;exact this
theorem Eo{f:Nat}{y:List oH->Option oH}{t:List (List oH×oH)}(hv:oK K f (oX y))(ht:∀p∈t,y p.1=some p.2):oK K f (oX (z8n t)):=BW hv λds v h=>by have:=WS ht h;simp only[oX,this,Option.isSome_some,Option.getD_some,and_self]
theorem LN(hT:X.T=K.E.T){f:Nat}{c:aW}:oK (K.wX X) f c↔oK K f c:=by simp only[oK,Cx.wX,XE.env,hT]
theorem z4n(hT:X.T=K.E.T){b:aZ}{g:Gh}{w:World}{q:Nat->Option (List oH)}:Inv (K.wX X) b g w q↔Inv K b g w q:=by
 constructor
 ·intro h;exact {h with glob:=by have:=h.glob;simp only[Cx.wX,XE.env,hT] at this;exact this}
 intro h;exact {h with glob:=by have:=h.glob;simp only[Cx.wX,XE.env,hT];exact this}
theorem Nf(hT:X.T=K.E.T){f:Nat}{c:CM}:ru (K.wX X) f c↔ru K f c:=by have h:∀{b:aZ} {g:Gh} {w:World} {q:Nat->Option (List oH)},Inv (K.wX X) b g w q=Inv K b g w q:=propext (z4n hT);have h2:∀{g:Gh} {w:World} {ds:List oH} {vs:List Value},WR (K.wX X) c g w ds vs=WR K c g w ds vs:=rfl;simp only[ru,h,h2];rfl
theorem Ng(hT:X.T=K.E.T){f:Nat}{c:CW}:zj (K.wX X) f c↔zj K f c:=by have h:∀{b:aZ} {g:Gh} {w:World} {q:Nat->Option (List oH)},Inv (K.wX X) b g w q=Inv K b g w q:=propext (z4n hT);simp only[zj,h];rfl
theorem S6(hT:X.T=K.E.T){f:Nat}{c:ItC}(h:uu K f c):uu (K.wX X) f c:=
 ⟨h.1,λS w x y vx vy B h1 h2 h3 hp l J Jx N hr=>h.2 S w x y vx vy B (λn hn=>by have:=h1 n hn;simp only[Cx.wX,XE.env,hT] at this;exact this) h2 ⟨h3.len,h3.at',h3.inj,h3.dom,h3.lt⟩ hp l J Jx N ⟨hr.start,hr.bound,hr.stab,hr.stabx,hr.round⟩⟩
theorem vbG{f:Nat}{x:List oH->Option oH}(hT:X.T=K.E.T)(hx:X.G f=x)(h:oK K f (oX x)):VB (K.wX X) (f,false):=by subst hx;exact(LN hT).2 h
theorem vbM{f:Nat}{x:XM}(hT:X.T=K.E.T)(hf:Nat.ble 500000000 f=false)(hx:X.M f=x)(h:ru K f (DE x)):VB (K.wX X) (f,true):=by
 subst hx;have h9:Nat.ble 999999990 f=false:=by
  cases h9:Nat.ble 999999990 f with
  |false=>rfl
  |true=>have:=Nat.le_of_ble_eq_true h9;have h5:Nat.ble 500000000 f=true:=Nat.ble_eq_true_of_le (by omega);rw[h5] at hf;cases hf
 simp only[VB,h9,hf];exact(Nf hT).2 h
theorem vbW{f:Nat}{x:XW}(hT:X.T=K.E.T)(hf:f<499999990)(hx:X.C f=x)(h:zj K f (Sk x)):VB (K.wX X) (500000000+f,true):=by
 subst hx;have h9:Nat.ble 999999990 (500000000+f)=false:=by
  cases h9:Nat.ble 999999990 (500000000+f) with
  |false=>rfl
  |true=>have:=Nat.le_of_ble_eq_true h9;omega
 have h5:Nat.ble 500000000 (500000000+f)=true:=Nat.ble_eq_true_of_le (by omega);simp only[VB,h9,h5,Nat.add_sub_cancel_left];exact(Ng hT).2 h
theorem viI{f:Nat}{x:List oH->List oH->Option (List (List oH))}(hT:X.T=K.E.T)(hx:X.I f=x)(h:uu K f (Nj x)):uu (K.wX X) f ((K.wX X).E.I f):=by subst hx;exact S6 hT h
theorem z6oa{f:Nat}{fn:Func}{F:nH}{n:Nat}(hT:X.T=K.E.T)(hf:K.P.funcs[K.nu f]? =some fn)(hc:pz (K.wX X) F fn=true)(hv:∀p∈ae F.body,VB (K.wX X) p)(hfl:sg F.body=true):oK K f (oX (Ma X F n)):=
 (LN hT).1 (CY (K:=K.wX X) hf hc hv (Xa (X:=X) F n) hfl)
theorem z6ka{f:Nat}{fn:Func}{F:nH}{n:Nat}(hT:X.T=K.E.T)(hf:K.P.funcs[K.nu f]? =some fn)(hc:pz (K.wX X) F fn=true)(hv:∀p∈ae F.body,VB (K.wX X) p)(hi:∀f∈yB F.body,uu (K.wX X) f ((K.wX X).E.I f))(hfl:Ai F.body=true)(ht:(tF F.body||sg F.body)=true):oK K f (oX (Ma X F n)):=
 (LN hT).1 (JI (K:=K.wX X) hf hc hv (Xa (X:=X) F n) hi hfl ht)
theorem Xf{f:Nat}{fn:Func}{F:nH}{n:Nat}{bx nb:List Nat}(hT:X.T=K.E.T)(hf:K.P.funcs[K.nu f]? =some fn)(hc:pz (K.wX X) F fn=true)(hv:∀p∈ae F.body,VB (K.wX X) p)(hb:∀j∈bx,j<F.n)(hfl:sg F.body=true)(ht:tF F.body=true):ru K f (DE (Fd X F n bx nb)):=
 (Nf hT).1 (yE (K:=K.wX X) (c:=HN X F n bx nb) hf hc hv hb (λds p=>Xx (X:=X) F n bx nb ds p) hfl ht)
theorem runW{f:Nat}{fn:Func}{F:nH}{n:Nat}{hold bx:List Nat}(hT:X.T=K.E.T)(hf:K.P.funcs[K.nu f]? =some fn)(hc:pz (K.wX X) F fn=true)(hv:∀p∈ae F.body,VB (K.wX X) p)(hfl:sg F.body=true)(ht:tF F.body=true):zj K f (Sk (Ns X F n hold bx)):=
 (Ng hT).1 (Jl (K:=K.wX X) (c:=Hp X F n hold bx) hf hc hv (λds bs p=>Z5 (X:=X) F n hold bx ds bs p) hfl ht)
theorem KS{f:Nat}{fn:Func}{F:nH}(hf:K.P.funcs[K.nu f]? =some fn)(hc:pz K F fn=true):oK K f (oX λ_=>none):=by
 simp only[pz,Bool.and_eq_true,Bool.not_eq_true',decide_eq_true_eq] at hc;refine⟨⟨fn,hf,?_,hc.1.1.1⟩,λ_ _ _ _ _ _ hp=>by cases hp⟩;cases hb:fn.body with
 |none=>rw[hb] at hc;exact absurd hc.1.1.2 (by simp)
 |some _=>rfl
end
def Li:aW:=⟨λds=>∃n:Nat,n<=1000000∧ds=[.sl .plain (some true) 0 [],i64 n],λ_=> .sl (.own 30) none 0 []⟩
@[simp] theorem z0T(ds:List oH):Li.post ds= .sl (.own 30) none 0 []:=rfl
theorem z1Ba{c:oH}(h:U4 c=true):c=u8 (gU8 c):=by
 unfold U4 at h;split at h
 ·rename_i n;simp only[Bool.and_eq_true,decide_eq_true_eq] at h;have e:((UInt8.ofInt n).toNat:Int)=n:=by
   unfold UInt8.ofInt;rw[UInt8.toNat_ofNat'];omega
  show oH.lit (.int .u8 n)= .lit (.int .u8 ((UInt8.ofInt n).toNat:Int));rw[e]
 cases h
theorem Wl{cs:List oH}(h:uF U4 cs=true):cs=bys (gBs cs):=by
 have h':=pd h;clear h;induction cs with
 |nil=>rfl
 |cons c cs ih=>rw[gBs,List.map_cons,bys,List.map_cons,<-z1Ba (h' c (by simp))];exact congrArg _ (ih λd hd=>h' d (by simp[hd]))
theorem z1ya{cs:List oH}(h:uF Ww cs=true):cs=sts (cs.map gS):=by
 have h':=pd h;clear h;induction cs with
 |nil=>rfl
 |cons c cs ih=>
  have hc:=h' c (by simp);have e:c=st (gS c):=by
   unfold Ww at hc;split at hc
   ·simp[st,gS,asS]
   cases hc
  rw[List.map_cons,sts,List.map_cons,<-e];exact congrArg _ (ih λd hd=>h' d (by simp[hd]))
theorem Sr(tag:Int):∀l:List (List UInt8),Co l<1099510000000->(mY tag l).length<=1+Co l
 |[],_=>by simp[mY,Co]
 |s::l,h=>by
  have e:Co (s::l)=s.length+9+Co l:=by simp[Co]
  have ih:=Sr tag l (by omega);have h1:=MK (s:=s) (by omega);simp only[mY,List.length_cons,List.flatMap_cons,List.length_append] at ih⊢;omega
theorem z0E{tag:Int}{l:List (List UInt8)}(h:Co l<=1000000000):z8na tag l=bh tag l:=by have:=Sr tag l (by omega);rw[z8na,bh,z47 (by omega)]
theorem Nw{ds:List oH}{v:oH}(h:xOf ds=some v):∃(t:Int) (nl:Option Bool) (l:List (List UInt8)),Co l<=1000000000∧ds=[i64 t,.sl .plain nl l.length (sts l)]∧v= .agg (bys (bh t l)):=by
 unfold xOf at h;split at h
 ·rename_i t nl n cs;cases hb:(Nat.beq n cs.length&&uF Ww cs&&Nat.ble (Co (cs.map gS)) 1000000000) with
  |false=>rw[hb] at h;cases h
  |true=>rw[hb] at h;simp only[Bool.and_eq_true] at hb;have h1:=Nat.eq_of_beq_eq_true hb.1.1;have h2:=z1ya hb.1.2;have h3:=Nat.le_of_ble_eq_true hb.2;have e:v= .agg (bys (z8na t (cs.map gS))):=(Option.some.inj h).symm;refine⟨t,nl,cs.map gS,h3,?_,by rw[e,z0E h3]⟩;rw[<-h2,List.length_map,<-h1];rfl
 cases h
theorem z3w(ds:List oH)(v:oH)(h:xOf ds=some v):ofC.pre ds∧ofC.post ds=v:=by obtain⟨t,nl,l,h1,rfl,rfl⟩:=Nw h;refine⟨⟨t,nl,l,by omega,rfl⟩,?_⟩;show oH.agg (bys (bh t (gSs (sts l))))=_;rw[mT]
theorem z8a(ds:List oH)(v:oH)(h:xOf ds=some v):Kq.pre ds∧Kq.post ds=v:=by obtain⟨t,nl,l,h1,rfl,rfl⟩:=Nw h;refine⟨⟨t,nl,l,by omega,rfl⟩,?_⟩;show oH.agg (bys (bh t (gSs (sts l))))=_;rw[mT]
theorem Vj{ds:List oH}{v:oH}(h:xSh ds=some v):∃(nl:Option Bool) (b:List UInt8),b.length<=1000000000∧ds=[.sl .plain nl b.length (bys b)]∧v= .agg (bys ((sha b).take 16)):=by
 unfold xSh at h;split at h
 ·rename_i nl n cs;cases hb:(Nat.beq n cs.length&&uF U4 cs&&Nat.ble n 1000000000) with
  |false=>rw[hb] at h;cases h
  |true=>
   rw[hb] at h;simp only[Bool.and_eq_true] at hb;have h1:=Nat.eq_of_beq_eq_true hb.1.1;have h2:=Wl hb.1.2;have h3:=Nat.le_of_ble_eq_true hb.2;have e:v= .agg (bys ((z1oa (gBs cs)).take 16)):=(Option.some.inj h).symm;have hl:(gBs cs).length=n:=by rw[gBs,List.length_map,<-h1]
   refine⟨nl,gBs cs,by omega,?_,by rw[e,z47 (by omega)]⟩;rw[<-h2,hl]
 cases h
theorem z0t(ds:List oH)(v:oH)(h:xSh ds=some v):shM.pre ds∧shM.post ds=v:=by obtain⟨nl,b,h1,rfl,rfl⟩:=Vj h;exact⟨⟨nl,b,h1,rfl⟩,Rf _ _ _ _⟩
theorem z9z(ds:List oH)(v:oH)(h:xGr 1 ds=some v):N4.pre ds∧N4.post ds=v:=by
 unfold xGr at h;split at h
 ·rename_i n;cases hb:(decide (0<=n)&&decide (n<=1000000)) with
  |false=>rw[hb] at h;cases h
  |true=>rw[hb] at h;simp only[Bool.and_eq_true,decide_eq_true_eq] at hb;refine⟨⟨n.toNat,by omega,?_⟩,Option.some.inj h⟩;rw[show((n.toNat:Nat):Int)=n by omega];rfl
 cases h
theorem z5b(ds:List oH)(v:oH)(h:xGr 30 ds=some v):Li.pre ds∧Li.post ds=v:=by
 unfold xGr at h;split at h
 ·rename_i n;cases hb:(decide (0<=n)&&decide (n<=1000000)) with
  |false=>rw[hb] at h;cases h
  |true=>rw[hb] at h;simp only[Bool.and_eq_true,decide_eq_true_eq] at hb;refine⟨⟨n.toNat,by omega,?_⟩,Option.some.inj h⟩;rw[show((n.toNat:Nat):Int)=n by omega];rfl
 cases h
theorem z56:∀(n:Nat) (b:List UInt8),b.length=n*16->∃l:List (List UInt8),qm l∧l.length=n∧b=dgs l
 |0,b,h=>⟨[],tg,rfl,by rw[List.length_eq_zero_iff.1 (by omega:b.length=0)];rfl⟩
 |n+1,b,h=>by obtain⟨l,h1,h2,h3⟩:=z56 n (b.drop 16) (by rw[List.length_drop];omega);exact⟨b.take 16::l,pN.2 ⟨by rw[List.length_take];omega,h1⟩,by rw[List.length_cons,h2],by rw[wV,<-h3,List.take_append_drop]⟩
theorem Sv{n:Nat}{cs:List oH}(h1:Nat.beq cs.length (n*16)=true)(h2:uF U4 cs=true):∃l:List (List UInt8),qm l∧l.length=n∧cs=bys (dgs l):=by have e:=Wl h2;obtain⟨l,k1,k2,k3⟩:=z56 n (gBs cs) (by rw[gBs,List.length_map,Nat.eq_of_beq_eq_true h1]);exact⟨l,k1,k2,by rw[<-k3];exact e⟩
theorem U5(ds:List oH)(v:oH)(h:z2E ds=some v):Oz.pre ds∧Oz.post ds=v:=by
 unfold z2E at h;split at h
 ·rename_i nl n cs;cases hb:(Nat.beq cs.length (n*16)&&uF U4 cs&&Nat.ble n 1000000) with
  |false=>rw[hb] at h;cases h
  |true=>rw[hb] at h;simp only[Bool.and_eq_true] at hb;obtain⟨l,k1,k2,rfl⟩:=Sv hb.1.1 hb.1.2;have h3:=Nat.le_of_ble_eq_true hb.2;subst k2;refine⟨⟨nl,l,k1,h3,rfl⟩,?_⟩;rw[EE k1 rfl rfl];exact Option.some.inj h
 cases h
theorem Uf(ds:List oH)(v:oH)(h:z7E ds=some v):KO.pre ds∧KO.post ds=v:=by
 unfold z7E at h;split at h
 ·rename_i nl n cs;cases hb:(Nat.beq cs.length (n*30)&&uF AN cs&&au cs&&Nat.ble n 1000000) with
  |false=>rw[hb] at h;cases h
  |true=>rw[hb] at h;simp only[Bool.and_eq_true] at hb;refine⟨⟨nl,n,cs,Nat.eq_of_beq_eq_true hb.1.1.1,λc hc=>⟨(bE cs).1 hb.1.2 c hc,yw (pd hb.1.1.2 c hc)⟩,Nat.le_of_ble_eq_true hb.2,rfl⟩,Option.some.inj h⟩
 cases h
theorem z0z(x y:List oH)(l:List (List oH))(h:xBw x y=some l):Pf.pre x y∧∀i,Pf.el x y i=l[i]? :=by
 unfold xBw at h;split at h
 ·rename_i nl n cs;cases hb:(Nat.beq cs.length (n*16)&&uF U4 cs&&Nat.ble n 1000000) with
  |false=>rw[hb] at h;cases h
  |true=>
   rw[hb] at h;simp only[Bool.and_eq_true] at hb;obtain⟨q,k1,k2,rfl⟩:=Sv hb.1.1 hb.1.2;have h3:=Nat.le_of_ble_eq_true hb.2;subst k2;refine⟨⟨rfl,nl,q,k1,h3,rfl⟩,λi=> ?_⟩;rw[Pu k1,<-Option.some.inj h,List.getElem?_map];by_cases hi:i<q.length
   ·rw[if_pos hi,List.getElem?_range hi,Option.map_some];have e:=zW k1 (show q.length-1-i<q.length by omega);rw[<-e];simp[bys]
   rw[if_neg hi,List.getElem?_eq_none (by simp;omega)];rfl
 cases h
theorem Wo(f:Nat->Option (List oH)):∀(n:Nat) (l:List (List oH)),z2ya f n=some l->l.length=n∧∀i<n,∃d,f i=some d∧l[i]? =some d
 |0,l,h=>by cases h;exact⟨rfl,λi hi=>absurd hi (Nat.not_lt_zero i)⟩
 |n+1,l,h=>by
  change(match z2ya f n,f n with|some l,some d=>some (l++[d])|_,_=>none)=some l at h;split at h
  ·rename_i l0 d0 e1 e2;obtain⟨k1,k2⟩:=Wo f n l0 e1;have e:=(Option.some.inj h).symm;subst e;refine⟨by simp[k1],λi hi=> ?_⟩;by_cases hn:i<n
   ·obtain⟨d,h1,h2⟩:=k2 i hn;exact⟨d,h1,by rw[List.getElem?_append_left (by omega),h2]⟩
   obtain rfl:i=n:=by omega
   exact⟨d0,e2,by rw[List.getElem?_append_right (by omega),k1,Nat.sub_self];rfl⟩
  cases h
theorem z78{d:oH}(h:WM d=true):ak d=true∧dem d=d∧yOk d=true∧aC d=true:=by
 unfold WM at h;split at h
 ·rename_i l;have e:=Wl h;have m:aj l=true:=by
   rw[e];generalize gBs l=b;induction b with
   |nil=>rfl
   |cons a b ih=>show(aC (u8 a)&&aj (bys b))=true;rw[ih];rfl
  refine⟨?_,rfl,?_,?_⟩
  ·rw[ak,e];simp
  ·exact m
  exact m
 cases h
theorem z5v(g:List oH->Option oH)(x y:List oH)(l:List (List oH))(h:xDg g x y=some l):(Ph (oX g)).pre x y∧∀i,(Ph (oX g)).el x y i=l[i]? :=by
 unfold xDg at h;split at h
 ·rename_i nl n cs;cases hb:(Nat.beq cs.length (n*30)&&uF AN cs&&au cs&&uF V5 cs&&Nat.ble n 1000000) with
  |false=>rw[hb] at h;cases h
  |true=>
   rw[hb] at h;simp only[Bool.and_eq_true] at hb;obtain⟨hl,hc⟩:=Wo _ n l h;have hi:∀i,i<n->∃d,g [HS cs i]=some d∧WM d=true∧l[i]? =some [d]:=λi h0=>by
    obtain⟨q,h1,h2⟩:=hc i h0;obtain⟨d,h3,h4⟩:=Option.bind_eq_some_iff.1 h1;cases hd:WM d with
    |false=>rw[hd] at h4;cases h4
    |true=>rw[hd] at h4;cases h4;exact⟨d,h3,hd,h2⟩
   refine⟨⟨rfl,nl,n,cs,Nat.eq_of_beq_eq_true hb.1.1.1.1,Nat.le_of_ble_eq_true hb.2,λd hd=>⟨(bE cs).1 hb.1.1.2 d hd,yw (pd hb.1.1.1.2 d hd),?_⟩,λi h0=> ?_,rfl⟩,λi=> ?_⟩
   ·have:=pd hb.1.2 d hd;simpa[V5] using this
   ·obtain⟨d,h1,h2,_⟩:=hi i h0;have h3:=z78 h2;simp only[oX,h1,Option.isSome_some,Option.getD_some];exact⟨trivial,h3.1,h3.2.1,h3.2.2.1,h3.2.2.2⟩
   rw[UC];by_cases h0:i<n
   ·obtain⟨d,h1,_,h2⟩:=hi i h0;rw[if_pos h0,h2];simp only[oX,h1,Option.getD_some]
   rw[if_neg h0,List.getElem?_eq_none (by omega)]
 cases h
theorem Oh{K:Cx}{X:XE}(hT:X.T=K.E.T){f:Nat}{c:ItC}(h:uu (K.wX X) f c):uu K f c:=
 ⟨h.1,λS w x y vx vy B h1 h2 h3 hp l J Jx N hr=>h.2 S w x y vx vy B (λn hn=>by have:=h1 n hn;simp only[Cx.wX,XE.env,hT];exact this) h2 ⟨h3.len,h3.at',h3.inj,h3.dom,h3.lt⟩ hp l J Jx N ⟨hr.start,hr.bound,hr.stab,hr.stabx,hr.round⟩⟩
def VLs(K:Cx):List (Nat×(List oH->Option oH))->Prop
 |[]=>True
 |p::l=>oK K p.1 (oX p.2)∧VLs K l
theorem VH{K:Cx}:∀{l:List (Nat×(List oH->Option oH))},VLs K l->∀a∈l.map Prod.fst,oK K a (oX (lkG l a))
 |[],_,_,h=>by cases h
 |p::l,hl,a,h=>by
  show oK K a (oX (bif Nat.beq p.1 a then p.2 else lkG l a));cases hb:Nat.beq p.1 a with
  |true=>rw[<-Nat.eq_of_beq_eq_true hb];exact hl.1
  |false=>
   refine VH hl.2 a ?_;rcases List.mem_cons.1 h with rfl|h
   ·rw[Nat.beq_refl] at hb;cases hb
   exact h
section
variable {K : Cx} {X : XE} {f : Nat} {fn : Func} {F : nH} {n : Nat}
theorem rL{T:Nat->List oH}{l:List (Nat×(List oH->Option oH))}(hf:K.P.funcs[K.nu f]? =some fn)(hc:(pz (K.wX (xGT T l)) F fn&&(ae F.body).all (λp=> !p.2&&(l.map Prod.fst).contains p.1)&&sg F.body)=true)(hv:VLs K l)(hT:T=K.E.T):oK K f (oX (Ma (xGT T l) F n)):=by simp only[Bool.and_eq_true] at hc;refine z6oa hT hf hc.1.1 (λp hp=> ?_) hc.2;have h:=List.all_eq_true.1 hc.1.2 p hp;obtain⟨a,b⟩:=p;simp only[Bool.and_eq_true,Bool.not_eq_true',List.contains_eq_mem,decide_eq_true_eq] at h;obtain rfl:b=false:=h.1;exact vbG hT rfl (VH hv a h.2)
theorem rG(l:List (Nat×Bool))(hT:X.T=K.E.T)(hf:K.P.funcs[K.nu f]? =some fn)(hc:(pz (K.wX X) F fn&&(ae F.body).all (λp=>l.contains p)&&sg F.body)=true)(hv:VBs (K.wX X) l):oK K f (oX (Ma X F n)):=by simp only[Bool.and_eq_true] at hc;exact z6oa hT hf hc.1.1 (z2p hc.1.2 hv) hc.2
end
theorem z4ia(ds:List oH)(h:Qa.pre ds):Xw ds=some (Qa.post ds):=by
 obtain rfl:ds=[]:=h;have h1:=z0va;generalize Xw []=o at h1⊢;split at h1
 ·rename_i b;rw[h1];rfl
 cases h1
end Go.Abs