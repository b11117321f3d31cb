/- Lemmas. -/
import Derived.Test.YtiehmnjjlbndlaaGreatDoorH
set_option linter.all false
namespace Go.Abs
set_option maxRecDepth 100000
theorem kT{E:Env}{c:Arg}{a b:av}{Q:aB->ASt->Prop}{s:ASt}(h:arg E s.get c=bo true):awp E (.cond c a b) Q s=awp E a Q s:=by rw[bq,h];simp
theorem kF{E:Env}{c:Arg}{a b:av}{Q:aB->ASt->Prop}{s:ASt}(h:arg E s.get c=bo false):awp E (.cond c a b) Q s=awp E b Q s:=by rw[bq,h];simp
theorem S4{f:Nat×Bool->ASt->Prop}{Q:IQ}{p:Nat×Bool}:(λe st'=>Ok f Q e p st')=cc (λst'=>f p st') (λe st'=>Q e p st'):=by funext e st';cases e<;>rfl
@[simp] theorem z7ja(E:Env)(l:Nat)(el:Nat->Option (List oH))(c:av)(Q:IQ)(p:Nat×Bool)(s:ASt):C4 E l el (.plain c) Q p s=awp E c (λe st'=>Q e p st') s:=rfl
@[simp] theorem z3na(E:Env)(l:Nat)(el:Nat->Option (List oH))(c:av)(b:zr)(Q:IQ)(p:Nat×Bool)(s:ASt):C4 E l el (.seq (.plain c) b) Q p s=awp E c (cc (λst'=>C4 E l el b Q p st') (λe st'=>Q e p st')) s:=by simp only[C4,S4]
@[simp] theorem z35(E:Env)(l:Nat)(el:Nat->Option (List oH))(i:Nat)(b:zr)(Q:IQ)(p:Nat×Bool)(s:ASt):C4 E l el (.block i b) Q p s=C4 E l el b (La i Q) p s:=rfl
@[simp] theorem z0o(f:Nat×Bool->ASt->Prop)(Q:IQ)(p:Nat×Bool)(s:ASt):Ok f Q .normal p s=f p s:=rfl
@[simp] theorem z4R(f:Nat×Bool->ASt->Prop)(Q:IQ)(i:Nat)(p:Nat×Bool)(s:ASt):Ok f Q (.exit i) p s=Q (.exit i) p s:=rfl
@[simp] theorem z5i(i:Nat)(Q:IQ)(p:Nat×Bool)(s:ASt):La i Q .normal p s=Q .normal p s:=rfl
@[simp] theorem z4P(i:Nat)(Q:IQ)(p:Nat×Bool)(s:ASt):La i Q (.exit i) p s=Q .normal p s:=by simp[La]
def z0V(E:Env)(f:ASt->Prop):List af->ASt->Prop
 |[],st=>f st
 |o::os,st=>okA E o st∧z0V E f os (ai E o st)
attribute [simp] z0V
theorem Vq(E:Env)(f:ASt->Prop):∀(xs:List af) (st:ASt),z0V E f xs st=(Aa E xs st∧f (C3 E xs st))
 |[],st=>by simp only[z0V,Aa,C3,true_and]
 |o::os,st=>by simp only[z0V,Aa,C3,Vq E f os];exact propext and_assoc.symm
@[simp] theorem z29(E:Env)(l:Nat)(el:Nat->Option (List oH))(keep:List Nat)(gs:List tJ)(xs:List af)(d:Option Nat)(y:Nat)(as:List Arg)(zs:List af)(Q:IQ)(p:Nat×Bool)(s:ASt):
  C4 E l el (.yield keep gs xs d y as zs) Q p s=((∀s'∈d.toList,lk s.org s'=none)∧z0V E (λst0=>p.2=false∧el p.1=some (as.map (arg E (OI st0).get))∧aj (as.map (arg E (OI st0).get))=true∧(OI st0).get y= .lit (.func (.yield l) #[] #[])∧(∀q∈(OI st0).box,∀cs,q.2=some cs->cs.all yOk=true∧q.1<1000000)∧
   ∀b:Bool,iq E keep gs (λe s=>Q e (if b then(p.1+1,false) else(p.1,true)) s) zs (Xh d b (OI st0))) xs s):=by
 simp only[Vq,dJ,C4];apply propext;constructor
 ·rintro⟨h1,h2,h3,h4,h5,h6,h8,h9⟩;exact⟨h2,h1,h3,h4,h5,h6,h8,h9⟩
 rintro⟨h2,h1,h3,h4,h5,h6,h8,h9⟩;exact⟨h1,h2,h3,h4,h5,h6,h8,h9⟩
@[simp] theorem z02(d:Nat)(b:Bool)(o e:List (Nat×oH))(bx:List (Nat×Option (List oH))):Xh (some d) b ⟨o,e,bx⟩=⟨o,(d,bo b)::e,bx⟩:=rfl
@[simp] theorem z2ka(b:Bool)(o e:List (Nat×oH))(bx:List (Nat×Option (List oH))):Xh none b ⟨o,e,bx⟩=⟨o,e,bx⟩:=rfl
@[simp] theorem z4wa(o e:List (Nat×oH))(b:List (Nat×Option (List oH))):OI ⟨o,e,b⟩=⟨o,e.map λq=>(q.1,if yOk q.2 then q.2 else .undef),b.map λq=>(q.1,q.2.map Gj)⟩:=rfl
@[simp] theorem yOk_ep(cs:List oH):yOk (.ep cs)=false:=rfl
@[simp] theorem yOk_sl(m:cH)(nl:Option Bool)(n:Nat)(cs:List oH):yOk (.sl m nl n cs)=aC (.sl m nl n cs):=rfl
@[simp] theorem z53:yOk .undef=true:=rfl
@[simp] theorem yOk_bp(i o:Nat):yOk (.bp i o)=true:=rfl
@[simp] theorem z6za(v:Value):yOk (.lit v)=true:=rfl
@[simp] theorem yOk_st(l:List UInt8):yOk (st l)=true:=rfl
@[simp] theorem yOk_bo(b:Bool):yOk (bo b)=true:=rfl
@[simp] theorem z8ra(n:Int):yOk (i64 n)=true:=rfl
@[simp] theorem z5va(cs:List oH):yOk (.agg cs)=aj cs:=rfl
@[simp] theorem z5sa(cs:List oH):yOk (.tup cs)=aj cs:=rfl
@[simp] theorem z2pa(E:Env)(l:Nat)(el:Nat->Option (List oH))(keep:List Nat)(gs:List tJ)(xs:List af)(d:Option Nat)(y:Nat)(as:List Arg)(zs:List af)(b:zr)(Q:IQ)(p:Nat×Bool)(s:ASt):
  C4 E l el (.seq (.yield keep gs xs d y as zs) b) Q p s=C4 E l el (.yield keep gs xs d y as zs) (Ok (λp st=>C4 E l el b Q p st) Q) p s:=rfl
theorem Si{E:Env}{l:Nat}{el:Nat->Option (List oH)}{b:zr}{Q:IQ}{p:Nat×Bool}{s:ASt}(h:∀Q',Q'=Q->C4 E l el b Q' p s):C4 E l el b Q p s:=h Q rfl
def inp(label:List UInt8)(parts:List (List UInt8)):List UInt8:=mX label++parts.flatMap mX
def drv(key label:List UInt8)(parts:List (List UInt8)):List UInt8:=mac key (inp label parts)
theorem f8(k l:List UInt8)(p:List (List UInt8)):(drv k l p).length=32:=J4 _
attribute [simp] f8
theorem Hm{E:Env}{f:Nat}{t:Arg}{ks ps:List Nat}{as bd:av}{Q:aB->ASt->Prop}{st:ASt}(x y:List oH)(hx:arg E st.get t= .fn f x y)(hp:au (x++y)=true)(hlv:(E.I f).lv=[])(hpre:(E.I f).pre x y)(hps:∀p∈ps,p∉ks∧lk st.org p=none)(N:Nat)(I:Nat->List (Nat×Option (List oH))->Prop)(h0:I 0 st.box)(hb:∀i bx,I i bx->i<=N)
  (hd:∀i bx,I i bx->(E.I f).el x y i=none->Q .normal {org:=st.org,env:=dz st ks,box:=bx})
  (hr:∀i bx xs,I i bx->(E.I f).el x y i=some xs->xs.length=ps.length∧aj xs=true∧∀V:Nat->Value,awp E as (cc (awp E bd (Tp st ks V (I (i+1)) Q)) (λ_ _=>False)) (oo st ks ps V xs bx)):awp E (.range f t ks ps as bd) Q st:=by
 refine⟨x,y,hx,by rw[hlv,Pb];exact hp,by rw[hlv,nD];exact hpre,hps,N,I,by rw[hlv,jB,oD];exact h0,hb,λi bx h he=>by rw[hlv,jB,D6];exact hd i bx h (by rw[hlv,nD] at he;exact he),λi bx xs h he=> ?_⟩;obtain⟨h1,h2,h3⟩:=hr i bx xs h (by rw[hlv,nD] at he;exact he);refine⟨h1,h2,λV=> ?_⟩;have e:Tp st ks V (I (i+1)) (λe s=>kV st ks [] Q e s.box)=Tp st ks V (I (i+1)) Q:=by
  funext e s;cases e with
  |normal=>rfl
  |exit id=>simp only[Tp,D6]
  |ret=>simp only[Tp,D6]
 rw[hlv,jB,jO,e];exact h3 V
@[simp] theorem RF(l:Nat)(x y:List oH):WB l [] x y=fP [] (x++ .lit (.func (.yield l) #[] #[])::y):=by simp[WB,fP,lvS]
end Go.Abs
namespace Go.Abs
def msgD(d:List UInt8):List Nat:=d.flatMap λb=>[b.toNat/16,b.toNat% 16]
def sumD(d:List UInt8):Nat:=(d.map λb=>(15-b.toNat/16)+(15-b.toNat% 16)).sum
def chkD(s:Nat):List Nat:=[s/256,s/16% 16,s% 16]
def dgt(d:List UInt8):List Nat:=msgD d++chkD (sumD d)
def od(kb:List UInt8)(f:Nat):Nat->List UInt8->List UInt8
 |0,v=>v
 |n+1,v=>bh 4 [kb,eU ((f+n:Nat):Int),od kb f n v]
theorem z6g{v:List UInt8}(h:v.length=16)(kb:List UInt8)(f:Nat):∀n,(od kb f n v).length=16
 |0=>h
 |_+1=>pG _ _
def gP(c f t:Int):Prop:=0<=c∧c<=34∧0<=f∧f<=15∧0<=t∧t<=15
instance (c f t:Int):Decidable (gP c f t):=by unfold gP;exact inferInstance
def adv(c f t:Int)(v:List UInt8):List UInt8:=if gP c f t then od (eU c) f.toNat (t.toNat-f.toNat) v else bF 16
theorem de{v:List UInt8}(h:v.length=16)(c f t:Int):(adv c f t v).length=16:=by
 unfold adv;split
 ·exact z6g h _ _ _
 rfl
def jJ:List UInt8:=[99,104,97,105,110]
def mf(seed:List UInt8)(k:Nat):List UInt8:=(drv seed jJ [eU (k:Int)]).take 16
theorem MV(s:List UInt8)(k:Nat):(mf s k).length=16:=by simp[mf]
def ij(f:Nat->List UInt8):Nat->List UInt8
 |0=>[]
 |n+1=>ij f n++f n
theorem ca{f:Nat->List UInt8}:∀n,(∀k,k<n->(f k).length=16)->(ij f n).length=16*n
 |0,_=>rfl
 |n+1,h=>by rw[ij,List.length_append,ca n λk hk=>h k (by omega),h n (by omega)];omega
def dgI(d:List UInt8):List Int:=(dgt d).map Int.ofNat
def pubV(s:List UInt8)(k:Nat):List UInt8:=adv k 0 15 (mf s k)
def sigV(s:List UInt8)(hs:List Int)(k:Nat):List UInt8:=adv k 0 (atI hs k) (mf s k)
def endV(hs:List Int)(s:List UInt8)(k:Nat):List UInt8:=adv k (atI hs k) 15 ((s.drop (16*k)).take 16)
def pubS(s:List UInt8):List UInt8:=ij (pubV s) 35
def sigS(s d:List UInt8):List UInt8:=ij (sigV s (dgI d)) 35
def endS(d s:List UInt8):List UInt8:=ij (endV (dgI d) s) 35
theorem cK(s:List UInt8)(k:Nat):(pubV s k).length=16:=de (MV _ _) _ _ _
theorem cR(s:List UInt8)(hs:List Int)(k:Nat):(sigV s hs k).length=16:=de (MV _ _) _ _ _
theorem eJ(s:List UInt8):(pubS s).length=560:=ca 35 λk _=>cK s k
theorem XC(s d:List UInt8):(sigS s d).length=560:=ca 35 λk _=>cR s _ k
def recD(d s:List UInt8):List UInt8:=if s.length=560 then bh 5 [endS d s] else bF 16
def pubD(s:List UInt8):List UInt8:=bh 5 [pubS s]
theorem dW(d s:List UInt8):(recD d s).length=16:=by
 unfold recD;split
 ·exact pG _ _
 rfl
theorem eI(s:List UInt8):(pubD s).length=16:=pG _ _
attribute [simp] cK cR eJ XC dW eI MV
theorem oM{l:List UInt8}(h:l.length=16):l.take 16=l:=by rw[<-h,List.take_length]
theorem tot1(a:List UInt8):Co [a]=a.length+9:=by simp[Co]
@[simp] theorem z5ka(tag:Int)(x:List UInt8)(nl:Option Bool):ofC.post [i64 tag,.sl .plain nl 1 [st x]]= .agg (bys (bh tag [x])):=z2F tag nl 1 [x]
@[simp] theorem kU(tag:Int)(x:List UInt8)(nl:Option Bool):Kq.post [i64 tag,.sl .plain nl 1 [st x]]= .agg (bys (bh tag [x])):=eR tag nl 1 [x]
end Go.Abs
namespace Go.Abs
def UG:Nat->List oH->List (Nat×oH)
 |_,[]=>[]
 |i,d::ds=>(i,dem d)::UG (i+1) ds
def MR(c:CW)(p:Nat->Value)(ds:List oH)(bs:Nat->List oH):ASt:=
 {org:=c.hold.map λj=>(j,.lit (p j)),env:=UG 0 ds,box:=c.bx.map λj=>(j,some (bs j))}
def held(st:ASt)(p:Value)(d:oH):Prop:=∃t V id e o n c e' o' n' c',lk st.org t=some (.lit V)∧z0ua V=z0ua p∧st.get t= .bv id e o n c∧d= .bv id e' o' n' c'
def z2S(res:List gR)(c:CW)(p:Nat->Value)(ds:List oH)(bs:Nat->List oH):aB->ASt->Prop
 | .normal,st| .ret,st=>(∀r∈res,F5 st r)∧gj st res=c.post ds bs∧(∀j∈c.hold,(lk st.org j=some (.lit (p j))∧st.get j=dem (ds.getD j .undef))∨held st (p j) (ds.getD j .undef))∧(∀j∈c.bx++c.nb,st.getB j=some (c.out ds bs j))∧
  (∀id∈aF (c.post ds bs),id∈c.bx++c.nb)∧(∀j∈c.bx++c.nb,∀id∈pT (c.out ds bs j),id∈c.bx++c.nb)
 |_,_=>False
section
variable {K : Cx} {base : aZ} {n : Nat} {st : ASt} {a : Act} {w : World}
theorem z7h(d:oH):aF (Abs.dem d)=aF d:=by
 cases d with
 |sl m nl n cs=>cases m<;>rfl
 |pv o _ _ _=>cases o<;>rfl
 |oagg=>simp only[Abs.dem,aF,pT,List.nil_append]
 |_=>rfl
mutual
theorem z2k{K:Con}{g g':Gh}{w w':World}:∀(d:oH) (v:Value) (l l':Option Loc),Rep K g w l d v->Rep K g' w' l' d v->∀id∈aF d,g.mu id=g'.mu id
 | .bp id off,v,_,_,h,h',i,hi=>by simp only[aF,List.mem_singleton] at hi;subst hi;simp only[Rep] at h h';obtain⟨b,hb,rfl⟩:=h;obtain⟨b',hb',e⟩:=h';simp only[Value.pointer.injEq,Option.some.injEq,Addr.mk.injEq,and_true] at e;rw[hb,hb',e]
 | .bv id e off n c,v,_,_,h,h',i,hi=>by simp only[aF,List.mem_singleton] at hi;subst hi;simp only[Rep] at h h';obtain⟨b,cap,o,hb,rfl,_⟩:=h;obtain⟨b',cap',o',hb',e,_⟩:=h';simp only[Value.slice.injEq,Option.some.injEq,Addr.mk.injEq,and_true] at e;rw[hb,hb',e.1.1]
 | .agg cs,v,_,_,h,h',i,hi=>by simp only[Rep] at h h';obtain⟨a,rfl,h⟩:=h;obtain⟨a',e,h'⟩:=h';cases e;exact FO cs _ h h' i (by simpa[aF] using hi)
 | .tup cs,v,_,_,h,h',i,hi=>by simp only[Rep] at h h';obtain⟨a,rfl,h⟩:=h;obtain⟨a',e,h'⟩:=h';cases e;exact FO cs _ h h' i (by simpa[aF] using hi)
 | .fn f x y,v,_,_,h,h',i,hi=>by
  simp only[Rep] at h h';obtain⟨a,c,rfl,h1,h2⟩:=h;obtain⟨a',c',e,h1',h2'⟩:=h';simp only[Value.func.injEq] at e;obtain⟨_,rfl,rfl⟩:=e;simp only[aF,List.mem_append] at hi;rcases hi with hi|hi
  ·exact FO x _ h1 h1' i hi
  exact FO y _ h2 h2' i hi
 | .undef,_,_,_,_,_,i,hi=>by simp[aF] at hi
 | .lit _,_,_,_,_,_,i,hi=>by simp[aF] at hi
 | .sl _ _ _ _,_,_,_,_,_,i,hi=>by simp[aF] at hi
 | .mp _,_,_,_,_,_,i,hi=>by simp[aF] at hi
 | .pv _ _ _ _,_,_,_,_,_,i,hi=>by simp[aF] at hi
 | .ep _,_,_,_,_,_,i,hi=>by simp[aF] at hi
 | .otup _ _ _ _ rest,v,_,_,h,h',i,hi=>by simp only[Rep] at h h';obtain⟨a,x,xs,rfl,h0,_,h⟩:=h;obtain⟨a',x',xs',e,h0',_,h'⟩:=h';cases e;rw[h0] at h0';cases h0';exact FO rest _ h h' i (by simpa[aF] using hi)
 | .oagg _ rest,v,_,_,h,h',i,hi=>by simp only[Rep] at h h';obtain⟨a,x,xs,rfl,h0,_,h⟩:=h;obtain⟨a',x',xs',e,h0',_,h'⟩:=h';cases e;rw[h0] at h0';cases h0';exact FO rest _ h h' i (by simpa[aF] using hi)
theorem FO{K:Con}{g g':Gh}{w w':World}:∀(ds:List oH) (vs:List Value),an K g w ds vs->an K g' w' ds vs->∀id∈pT ds,g.mu id=g'.mu id
 |[],_,_,_,i,hi=>by simp[pT] at hi
 |c::cs,l,h,h',i,hi=>by
  simp only[an] at h h';obtain⟨x,xs,rfl,h1,h2⟩:=h;obtain⟨x',xs',e,h1',h2'⟩:=h';cases e;simp only[pT,List.mem_append] at hi;rcases hi with hi|hi
  ·exact z2k c x none none h1 h1' i hi
  exact FO cs xs h2 h2' i hi
end
theorem Pz:∀(ds:List oH) (i s:Nat),lk (UG i ds) s=if i<=s then(ds[s-i]?).map Abs.dem else none
 |[],i,s=>by simp[UG,lk]
 |d::ds,i,s=>by
  simp only[UG,lk];by_cases h:s=i
  ·subst h;simp
  rw[if_neg h,Pz ds (i+1) s];by_cases hi:i<=s
  ·rw[if_pos hi,if_pos (by omega),show s-i=(s-(i+1))+1 by omega];simp
  rw[if_neg hi,if_neg (by omega)]
theorem W0{g:Gh}{c:CW}{ds:List oH}{bs:Nat->List oH}{vs:List Value}(hI:Inv K ⟨w,Wr g,g.S,[],g.mu⟩ g w (c.ins bs))(hA:an K.toCon g w ds vs)(m:Nat)(hm:vs.length+m=n):
  Rel K ⟨w,Wr g,g.S,[],g.mu⟩ n (MR c (λj=>vs.getD j undef) ds bs) {tmps:=vs.toArray++Array.replicate m undef,defers:=[]} w:=by
 have hget:∀s v,vs[s]? =some v->(vs.toArray++Array.replicate m undef).getD s undef=v:=λs v hv=>by have hs:s<vs.length:=(List.getElem?_eq_some_iff.1 hv).1;rw[Array.getD_eq_getD_getElem?,Array.getElem?_append_left (by simpa using hs)];simp[hv]
 have hgb:(MR c (λj=>vs.getD j undef) ds bs).getB=c.ins bs:=funext λj=>by simp only[ASt.getB,MR,FU λj=>some (bs j),CW.ins];split<;>rfl
 have horg:∀s,lk (MR c (λj=>vs.getD j undef) ds bs).org s=if s∈c.hold then some (.lit (vs.getD s undef)) else none:=λs=>FU (λj=>oH.lit (vs.getD j undef)) s c.hold;have hall:∀s,(vs.toArray++Array.replicate m undef).getD s undef=vs.getD s undef:=λs=>by
  cases hv:vs[s]? with
  |some v=>rw[hget s v hv,List.getD_eq_getElem?_getD,hv];rfl
  |none=>rw[List.getD_eq_getElem?_getD,hv];have hs:vs.length<=s:=List.getElem?_eq_none_iff.1 hv;rw[Array.getD_eq_getD_getElem?,Array.getElem?_append_right (by simpa using hs)];simp only[Array.getElem?_replicate,Option.getD_none];split<;>rfl
 refine⟨g,by rw[hgb];exact hI,λs=> ?_,λs d hs=> ?_,rfl,by simp;exact hm⟩
 ·unfold ASt.get;rw[horg];show Rep K.toCon g w (some (.slot s)) (match lk (UG 0 ds) s with|some d=>d|none=>_) _;rw[Pz,if_pos (Nat.zero_le _),Nat.sub_zero];cases hd:ds[s]? with
  |none=>
   simp only[Option.map_none];by_cases hh:s∈c.hold
   ·rw[if_pos hh];simp only[Option.getD_some,Abs.dem,Rep];exact hall s
   rw[if_neg hh];simp[Abs.dem,Rep]
  |some d=>obtain⟨v,hv,hr⟩:=hA.get s d hd;rw[hget s v hv];simp only[Option.map_some];exact Rep.dem _ hr
 rw[horg] at hs;split at hs
 ·cases hs;show ap _ _ _ _ _;rw[hall s];simp[ap]
 cases hs
theorem PZ{f:Nat}{fn:Func}{F:nH}{c:CW}(hf:K.P.funcs[K.nu f]? =some fn)(hc:pz K F fn=true)(hs:Th K F.body)
  (h:∀ds bs p,c.pre ds bs->ds.length=F.n∧awp K.E F.body (z2S F.res c p ds bs) (MR c p ds bs)) (ht:tF F.body=true):zj K f c:=by
 simp only[pz,Bool.and_eq_true,Bool.not_eq_true',decide_eq_true_eq] at hc;obtain⟨⟨⟨hname,hbody⟩,hres⟩,hsz⟩:=hc;cases hbd:fn.body with
 |none=>rw[hbd] at hbody;cases hbody
 |some code=>
  rw[hbd] at hbody;simp only at hbody;refine⟨⟨fn,hf,by rw[hbd];rfl,hname⟩,λg0 w ds bs vs hI0 hA hcov hpre=> ?_⟩;obtain⟨hlen,hw⟩:=h ds bs (λj=>vs.getD j undef) hpre;have hl2:=hA.len;refine callsIn_wide.1 (callsIn_of_wp_marks (F:=WF none) (n:=0) hf hbd (Mu none _) ?_);have hR:=W0 (n:=fn.ntmps) hI0 hA (fn.ntmps-vs.length) (by omega);have hwp:=hs fn.ntmps code _ _ _ _ w hbody (.inl ht) hw hR;simp only[List.size_toArray];refine wpIn_mono hwp λe a' w' hl=> ?_;have fin:∀st g w',Inv K ⟨w,Wr g0,g0.S,[],g0.mu⟩ g w' st.getB->dI K g w' st.get a'->(∀j V,lk st.org j=some (.lit V)->a'.tmps.getD j undef=V)->z2S F.res c (λj=>vs.getD j undef) ds bs .ret st->
    ∃v,(results fn a'.tmps).run K.P w'= .ok v w'∧∃v' g',Ending.returned v= .returned v'∧Inv K ⟨w,Wr g0,g0.S,[],g0.mu⟩ g' w' (c.outs ds bs)∧(∀j∈c.bx,g'.mu j=g0.mu j)∧Rep K.toCon g' w' (some .ret) (c.post ds bs) v':=λst g w' hI hS hO hq=>by
   obtain⟨hok,hval,hbx,hout,hr1,hr2⟩:=hq;obtain⟨xs,h1,h2,h3,_⟩:=HU hI hS hres hok;have hmap:fn.results.mapM (zX a'.tmps)=Functor.map List.toArray (fn.results.toList.mapM (zX a'.tmps)):=by exact Array.mapM_eq_mapM_toList
   have hrun:(results fn a'.tmps).run K.P w'= .ok (if h:xs.toArray.size=1 then xs.toArray[0] else .tuple xs.toArray) w':=by
    have:results fn a'.tmps=(do
     let vs<-fn.results.mapM (zX a'.tmps)
     pure (if h:vs.size=1 then vs[0] else .tuple vs)):=rfl
    rw[this,hmap];simp only[map_eq_pure_bind,Sem.run_bind,h1,Result.andThen_ok,Sem.run_pure]
   refine⟨_,hrun,?_⟩
   let g':Gh:={g with mu:=λj=>if j∈c.bx++c.nb then g.mu j else none}
   have hI':Inv K ⟨w,Wr g0,g0.S,[],g0.mu⟩ g' w' (c.outs ds bs):=Sb hI (c.bx++c.nb) hout hr2;have hmu:∀j∈c.bx,g'.mu j=g0.mu j:=λj hj=>by
    rcases hcov j hj with hvia|⟨i,hi,d,hd,hjd⟩
    ·obtain⟨b,k1,_⟩:=hI.bxok j _ (hout j (List.mem_append_left _ hj));simp only[g',if_pos (List.mem_append_left c.nb hj),k1];exact(hI.old j b hvia.1 hvia.2 k1).symm
    obtain⟨v0,hv0,hr0⟩:=hA.get i d hd;have hv0':vs.getD i undef=v0:=by rw[List.getD_eq_getElem?_getD,hv0];rfl
    have hdd:ds.getD i .undef=d:=by rw[List.getD_eq_getElem?_getD,hd];rfl
    rcases hbx i hi with⟨k1,k2⟩|⟨t,V,id,e,o,n,c',e',o',n',c'',k1,kb,k2,k3⟩
    rotate_left
    ·have e1:=hO t V k1;have e2:=hS t;rw[k2,e1] at e2;rw[hdd] at k3;subst k3;simp only[Rep] at e2 hr0;obtain⟨b2,_,_,m2,v2,_⟩:=e2;obtain⟨b1,_,_,m1,v1,_⟩:=hr0;simp only[hv0',v1,v2,z0ua,Option.some.injEq] at kb;subst kb;simp only[aF,List.mem_singleton] at hjd;subst hjd;simp only[g',if_pos (List.mem_append_left c.nb hj),m2,m1]
    have e1:a'.tmps.getD i undef=vs.getD i undef:=hO i _ k1;have e2:=hS i;rw[k2,e1] at e2;rw[hv0',hdd] at e2;have hdj:j∈aF (Abs.dem d):=by rw[z7h];exact hjd
    have:=z2k (Abs.dem d) v0 _ _ e2 (Rep.dem (some (.slot i)) hr0) j hdj;simp only[g',if_pos (List.mem_append_left c.nb hj)];exact this
   have cut:∀{d:oH} {v:Value} {l:Option Loc},(∀id∈aF d,id∈c.bx++c.nb)->Rep K.toCon g w' l d v->Rep K.toCon g' w' l d v:=λ{d v l} hd hr=>Rep.mono (g:=g) (g':=g') (aP.refl g.S w') d v l l (λid hid b hb=>by simp only[g',if_pos (hd id hid)];exact hb) (λm hm=>⟨m,hm,λb hb=>⟨hb,rfl,rfl⟩⟩) hr;by_cases hone:∃s,F.res=[.t s]
   ·obtain⟨s,hs⟩:=hone;have hx:=h3 s hs;subst hx;rw[hs] at hval;simp only[gj] at hval;refine⟨a'.tmps.getD s undef,wT g' (.slot s) .ret,by simp,B1 hI' s .ret,hmu,?_⟩;rw[<-hval] at hr1⊢;exact ta (cut hr1 (hS s))
   have hl3:=h2.len;simp only[List.length_map] at hl3;have rest:∀{d:oH} {v:Value},Rep K.toCon g w' none d v->ao d=false->d=c.post ds bs->Rep K.toCon g' w' (some .ret) (c.post ds bs) v:=λ{d v} hr ho he=>by subst he;exact Bv _ ho (cut hr1 hr)
   have hdem:∀d:oH,ao (dem d)=false:=AF;cases hF:F.res with
   |nil=>rw[hF] at h2 hval hl3;simp only[List.map_nil,an] at h2;subst h2;refine⟨_,g',rfl,hI',hmu,?_⟩;refine rest (d:= .tup []) ?_ rfl (by rw[<-hval];rfl);simp[Rep,an]
   |cons r rs=>
    rw[hF] at h2 hval hl3 hone;cases rs with
    |nil=>
     simp only[List.map_cons,List.map_nil,an] at h2;obtain⟨x,ys,rfl,h4,rfl⟩:=h2;refine⟨x,g',by simp,hI',hmu,?_⟩;cases r with
     |t s=>exact absurd ⟨s,rfl⟩ hone
     |o s=>simp only[gj] at hval;exact rest h4 (hdem _) hval
     |cell s k id=>
      simp only[gj] at hval;refine rest h4 ?_ hval;cases k with
      |none=>exact hdem _
      |some n=>rfl
    |cons r2 rs=>
     have h5:¬(xs.toArray.size=1):=by simp only[List.size_toArray,<-hl3,List.length_cons];omega
     refine⟨.tuple xs.toArray,g',by rw[dif_neg h5],hI',hmu,?_⟩;refine rest (d:= .tup ((r::r2::rs).map (lr st))) ?_ rfl (by rw[<-hval];cases r<;>rfl);simp only[Rep];exact⟨_,rfl,by simpa using h2⟩
  cases e<;>simp only[Ii] at hl<;>simp only[bodyPostM]
  ·obtain⟨b',hE,st,hR',hq⟩:=hl;exact Tn hE rfl hR' λg w' hI hS hO=>fin st g w' hI hS (λj _ hj=>by have:=hO j _ hj;simpa[ap] using this) hq
  ·obtain⟨b',hE,st,_,hq⟩:=hl;exact hq
  obtain⟨b',hE,st,hR',hq⟩:=hl;exact Tn hE rfl hR' λg w' hI hS hO=>fin st g w' hI hS (λj _ hj=>by have:=hO j _ hj;simpa[ap] using this) hq
theorem Jl{f:Nat}{fn:Func}{F:nH}{c:CW}(hf:K.P.funcs[K.nu f]? =some fn)(hc:pz K F fn=true)(hv:∀p∈ae F.body,VB K p)
  (h:∀ds bs p,c.pre ds bs->ds.length=F.n∧awp K.E F.body (z2S F.res c p ds bs) (MR c p ds bs)) (hfl:sg F.body=true) (ht:tF F.body=true):zj K f c:=PZ hf hc (AD hv hfl) h ht
end
def HG(c:aW)(μ:List oH->Nat)(n:Nat):aW:=⟨λds=>c.pre ds∧μ ds<n,c.post⟩
def Cx.wG(K:Cx)(f:Nat)(c:aW):Cx:={K with E:={K.E with G:=λg=>if g=f then c else K.E.G g}}
section
variable {K : Cx}
theorem ZT{f g:Nat}{c c':aW}:oK (K.wG f c) g c'↔oK K g c':=Iff.rfl
theorem Rk{f:Nat}{c:aW}{base:aZ}{g:Gh}{w:World}{bx:Nat->Option (List oH)}:Inv (K.wG f c) base g w bx↔Inv K base g w bx:=
 ⟨λh=>⟨h.fr,h.sS,h.inj,h.bxok,h.nobx,h.muW,h.owW,h.glob,h.kp,h.obok,h.old⟩,λh=>⟨h.fr,h.sS,h.inj,h.bxok,h.nobx,h.muW,h.owW,h.glob,h.kp,h.obok,h.old⟩⟩
theorem Ve{f g:Nat}{c:aW}{c':CM}(h:ru K g c'):ru (K.wG f c) g c':=by refine⟨h.1,λg0 w ds vs hI hA hp=> ?_⟩;refine(h.2 g0 w ds vs (Rk.1 hI) hA hp).mono ?_;rintro e w' ⟨v,g',h1,h2,h3,h4⟩;exact⟨v,g',h1,Rk.2 h2,h3,h4⟩
theorem Vl{f g:Nat}{c:aW}{c':CW}(h:zj K g c'):zj (K.wG f c) g c':=by refine⟨h.1,λg0 w ds bs vs hI hA hc hp=> ?_⟩;refine(h.2 g0 w ds bs vs (Rk.1 hI) hA hc hp).mono ?_;rintro e w' ⟨v,g',h1,h2,h3,h4⟩;exact⟨v,g',h1,Rk.2 h2,h3,h4⟩
theorem z7fa{f k:Nat}{c:aW}(h:L2 K k):L2 (K.wG f c) k:=⟨h.call,h.len,h.wstr,h.write,h.str⟩
theorem z5za{f:Nat}{c:aW}{p:Nat×Bool}(hp:p≠(f,false))(h:VB K p):VB (K.wG f c) p:=by
 obtain⟨g,b⟩:=p;cases b with
 |false=>have hg:g≠f:=λe=>hp (by rw[e]);have e:(K.wG f c).E.G g=K.E.G g:=if_neg hg;show oK (K.wG f c) g ((K.wG f c).E.G g);rw[e];exact h
 |true=>
  revert h
  simp only[VB];cases Nat.ble 999999990 g with
  |true=>exact z7fa
  |false=>
   cases Nat.ble 500000000 g with
   |true=>exact Vl
   |false=>exact Ve
theorem Wc{f:Nat}{c:aW}(μ:List oH->Nat)(hcal:ek K.P (K.nu f))(h:∀n,oK K f (HG c μ n)->oK K f (HG c μ (n+1))):oK K f c:=by
 have all:∀n,oK K f (HG c μ n):=λn=>by
  induction n with
  |zero=>exact⟨hcal,λS w ds vs _ _ hp=>absurd hp.2 (Nat.not_lt_zero _)⟩
  |succ n ih=>exact h n ih
 exact⟨hcal,λS w ds vs hg hr hp=>(all (μ ds+1)).2 S w ds vs hg hr ⟨hp,Nat.lt_succ_self _⟩⟩
theorem z9xa{f:Nat}{F:nH}(hv:∀p∈ae F.body,p≠(f,false)->VB K p)(c':aW)(ih:oK (K.wG f c') f c'):∀p∈ae F.body,VB (K.wG f c') p:=λp hp=>by
 by_cases e:p=(f,false)
 ·subst e;have e:(K.wG f c').E.G f=c':=if_pos rfl;show oK (K.wG f c') f ((K.wG f c').E.G f);rw[e];exact ih
 exact z5za e (hv p hp e)
theorem KP{f:Nat}{fn:Func}{F:nH}{c:aW}(μ:List oH->Nat)(hf:K.P.funcs[K.nu f]? =some fn)(hc':∀c',pz (K.wG f c') F fn=true)(hs:∀c',oK (K.wG f c') f c'->Th (K.wG f c') F.body)
  (h:∀n ds,(HG c μ (n+1)).pre ds->ds.length=F.n∧awp (K.wG f (HG c μ n)).E F.body (qH F.res (c.post ds)) (fP F.wr ds)):oK K f c:=by
 have hc:=hc' c;have hname:fn.body.isSome=true∧fn.name≠ "runtime.NumGoroutine" :=by
  simp only[pz,Bool.and_eq_true,Bool.not_eq_true'] at hc;refine⟨?_,by simpa using hc.1.1.1⟩;cases hb:fn.body with
  |none=>simp[hb] at hc
  |some _=>rfl
 refine Wc μ ⟨fn,hf,hname.1,?_⟩ λn ih=> ?_
 ·have:=hc;simp only[pz,Bool.and_eq_true,Bool.not_eq_true'] at this;exact this.1.1.1
 exact ZT.1 (Hc (K:=K.wG f (HG c μ n)) (f:=f) (F:=F) (c:=HG c μ (n+1)) hf (hc' _) (hs _ ih) (h n))
theorem Cl{f:Nat}{fn:Func}{F:nH}{c:aW}(μ:List oH->Nat)(hf:K.P.funcs[K.nu f]? =some fn)(hc':∀c',pz (K.wG f c') F fn=true)(hv:∀p∈ae F.body,p≠(f,false)->VB K p)
  (h:∀n ds,(HG c μ (n+1)).pre ds->ds.length=F.n∧awp (K.wG f (HG c μ n)).E F.body (qH F.res (c.post ds)) (fP F.wr ds)) (hfl:sg F.body=true):oK K f c:=KP μ hf hc' (λc' ih=>AD (z9xa hv c' ih) hfl) h
def Ml:oH->Prop
 | .sl _ none _ _=>False
 | .sl _ (some true) n cs=>n=0∧cs=[]
 |_=>True
def MS(b:Bool):oH->oH
 | .sl m none n cs=> .sl m (some b) n cs
 |d=>d
theorem z7f{S:Nat->Nat}{w:World}{d:oH}{v:Value}(h:ap K.toCon S w d v):∃b,Ml (MS b d)∧ap K.toCon S w (MS b d) v:=by
 cases d with
 |sl m nl n cs=>
  cases nl with
  |none=>
   simp only[ap] at h;rcases h with⟨b,o,cap,h1,h2,h3,h4,h5⟩|⟨q,h1,h2,h3,h4⟩
   ·exact⟨false,by simp[MS,Ml],by simp only[MS,ap];exact .inl ⟨b,o,cap,h1,h2,h3,by simp,h5⟩⟩
   cases q with
   |none=>exact⟨true,by simp[MS,Ml,h2,h3],by simp only[MS,ap];exact .inr ⟨none,h1,h2,h3,by simp⟩⟩
   |some q=>exact⟨false,by simp[MS,Ml],by simp only[MS,ap];exact .inr ⟨some q,h1,h2,h3,by simp⟩⟩
  |some b=>
   cases b with
   |false=>exact⟨false,by simp[MS,Ml],h⟩
   |true=>
    refine⟨true,?_,h⟩;simp only[ap] at h;rcases h with⟨_,_,_,_,_,_,h4,_⟩|⟨_,_,h2,h3,_⟩
    ·exact absurd rfl h4
    exact⟨h2,h3⟩
 |_=>exact⟨true,by simp[MS,Ml],h⟩
theorem N1{S:Nat->Nat}{w:World}:∀{ds:List oH} {vs:List Value} {i:Nat} {d d':oH},ag K.toCon S w ds vs->ds[i]? =some d->(∀v,ap K.toCon S w d v->vs[i]? =some v->ap K.toCon S w d' v)->ag K.toCon S w (ds.set i d') vs
 |[],_,_,_,_,_,h,_=>by simp at h
 |c::cs,vs,0,d,d',hr,h,hd=>by simp only[List.getElem?_cons_zero,Option.some.injEq] at h;subst h;simp only[ag,List.set_cons_zero] at hr⊢;obtain⟨x,xs,rfl,h1,h2⟩:=hr;exact⟨x,xs,rfl,hd x h1 rfl,h2⟩
 |c::cs,vs,i+1,d,d',hr,h,hd=>by simp only[ag,List.set_cons_succ] at hr⊢;obtain⟨x,xs,rfl,h1,h2⟩:=hr;exact⟨x,xs,rfl,h1,N1 h2 (by simpa using h) (λv hv hx=>hd v hv (by simpa using hx))⟩
theorem Rs{S:Nat->Nat}{w:World}{d:oH}:∀{ds:List oH} {vs:List Value} {i:Nat},ag K.toCon S w ds vs->ds[i]? =some d->∃v,vs[i]? =some v∧ap K.toCon S w d v
 |[],_,_,_,h=>by simp at h
 |c::cs,vs,0,hr,h=>by simp only[ag] at hr;obtain⟨x,xs,rfl,h1,h2⟩:=hr;simp only[List.getElem?_cons_zero,Option.some.injEq] at h;subst h;exact⟨x,rfl,h1⟩
 |c::cs,vs,i+1,hr,h=>by simp only[ag] at hr;obtain⟨x,xs,rfl,h1,h2⟩:=hr;obtain⟨v,k1,k2⟩:=Rs h2 (by simpa using h);exact⟨v,by simpa using k1,k2⟩
theorem OO{f:Nat}{c:aW}(i:Nat)(h:oK K f ⟨λds=>c.pre ds∧∀d,ds[i]? =some d->Ml d,c.post⟩)(hc:∀ds d b,c.pre ds->ds[i]? =some d->c.pre (ds.set i (MS b d))∧c.post (ds.set i (MS b d))=c.post ds):oK K f c:=by
 refine⟨h.1,λS w ds vs hg hr hp=> ?_⟩;cases hd:ds[i]? with
 |none=>exact h.2 S w ds vs hg hr ⟨hp,λd hd'=>by rw[hd] at hd';cases hd'⟩
 |some d=>
  obtain⟨v,hv⟩:=Rs hr hd;obtain⟨b,h1,h2⟩:=z7f hv.2;obtain⟨k1,k2⟩:=hc ds d b hp hd;have hr':ag K.toCon S w (ds.set i (MS b d)) vs:=N1 hr hd λv' _ hv'=>by rw[hv.1] at hv';cases hv';exact h2
  have:=h.2 S w (ds.set i (MS b d)) vs hg hr' ⟨k1,λd' hd'=>by
   have hlt:=(List.getElem?_eq_some_iff.1 hd).1;rw[List.getElem?_set_self hlt] at hd';cases hd';exact h1⟩
  simp only[k2] at this;exact this
end
def ur(nl:Option Bool)(l:List (List UInt8)):oH:= .sl .plain nl l.length (bys (dgs l))
def inM:aW:=⟨λds=>∃(t:UInt8) (nl:Option Bool) (l:List (List UInt8)),qm l∧l.length<=1000000∧ds=[u8 t,ur nl l],λds=> .sl (.own 1) (some false) ((gU8 (nth ds 0))::(gDs (nth ds 1)).flatMap mX).length (bys ((gU8 (nth ds 0))::(gDs (nth ds 1)).flatMap mX))⟩
theorem PN{t:UInt8}{nl:Option Bool}{l:List (List UInt8)}{n:Nat}{b:List UInt8}(h:qm l)(hl:l.length<=1000000)(hn:n=l.length)(hb:b=dgs l):inM.pre [u8 t,.sl .plain nl n (bys b)]=True:=eq_true ⟨t,nl,l,h,hl,by rw[hn,hb];rfl⟩
theorem IG{t:UInt8}{nl:Option Bool}{l:List (List UInt8)}(h:qm l):inM.post [u8 t,.sl .plain nl l.length (bys (dgs l))]= .sl (.own 1) (some false) (t::l.flatMap mX).length (bys (t::l.flatMap mX)):=by simp only[inM,nth];rw[show([u8 t,oH.sl .plain nl l.length (bys (dgs l))].getD 1 .undef)=oH.sl .plain nl l.length (bys (dgs l)) from rfl,uv h];simp
def shM:aW:=⟨λds=>∃(nl:Option Bool) (b:List UInt8),b.length<=1000000000∧ds=[.sl .plain nl b.length (bys b)],λds=> .agg (bys (cT (gBs (gCs (nth ds 0)))))⟩
theorem zQ{nl:Option Bool}{n:Nat}{b:List UInt8}(h:b.length<=1000000000)(hn:n=b.length):shM.pre [.sl .plain nl n (bys b)]=True:=eq_true ⟨nl,b,h,by rw[hn]⟩
@[simp] theorem Rf(m:cH)(nl:Option Bool)(n:Nat)(b:List UInt8):shM.post [.sl m nl n (bys b)]= .agg (bys (cT b)):=by simp[shM]
def IY:aW:=⟨λds=>∃d:List UInt8,d.length=16∧ds=[.agg (bys d)],λds=> .sl (.own 1) (some false) (mY 1 [gBs (gCs (nth ds 0))]).length (bys (mY 1 [gBs (gCs (nth ds 0))]))⟩
def EH:aW:=⟨λds=>∃a b:List UInt8,a.length=16∧b.length=16∧ds=[.agg (bys a),.agg (bys b)],λds=> .sl (.own 1) (some false) (mY 2 [gBs (gCs (nth ds 0)),gBs (gCs (nth ds 1))]).length (bys (mY 2 [gBs (gCs (nth ds 0)),gBs (gCs (nth ds 1))]))⟩
theorem Jc{d:List UInt8}(h:d.length=16):IY.pre [.agg (bys d)]=True:=eq_true ⟨d,h,rfl⟩
theorem CX{a b:List UInt8}(ha:a.length=16)(hb:b.length=16):EH.pre [.agg (bys a),.agg (bys b)]=True:=eq_true ⟨a,b,ha,hb,rfl⟩
@[simp] theorem Tx(d:List UInt8):IY.post [.agg (bys d)]= .sl (.own 1) (some false) (mY 1 [d]).length (bys (mY 1 [d])):=by simp[IY]
@[simp] theorem To(a b:List UInt8):EH.post [.agg (bys a),.agg (bys b)]= .sl (.own 1) (some false) (mY 2 [a,b]).length (bys (mY 2 [a,b])):=by simp[EH,nth]
def LM:aW:=⟨λds=>∃n:Nat,2<=n∧n<=9223372036854775807∧ds=[i64 n],λds=>i64 (spl (asI (nth ds 0)).toNat)⟩
theorem EO{n:Nat}(h:2<=n)(h':n<=9223372036854775807):LM.pre [i64 n]=True:=eq_true ⟨n,h,h',rfl⟩
@[simp] theorem Nx(n:Nat):LM.post [i64 n]=i64 (spl n):=by simp[LM]
def TG:aW:=⟨λds=>∃x:UInt64,ds=[u64 x],λds=>i64 (Nc (asI (nth ds 0)).toNat)⟩
@[simp] theorem z4na(x:UInt64):TG.pre [u64 x]=True:=eq_true ⟨x,rfl⟩
@[simp] theorem OB(x:UInt64):TG.post [u64 x]=i64 (Nc x.toNat):=by show i64 (Nc ((x.toNat:Int)).toNat)=_;rw[Int.toNat_natCast]
def FW:aW:=⟨λds=>∃(nl:Option Bool) (l:List (List UInt8)),qm l∧l.length<=1000000∧ds=[ur nl l],λds=> .agg (bys (root (gDs (nth ds 0))))⟩
theorem Jb{nl:Option Bool}{n:Nat}{l:List (List UInt8)}{b:List UInt8}(h:qm l)(hl:l.length<=1000000)(hn:n=l.length)(hb:b=dgs l):FW.pre [.sl .plain nl n (bys b)]=True:=eq_true ⟨nl,l,h,hl,by rw[hn,hb];rfl⟩
theorem E2{nl:Option Bool}{n:Nat}{l:List (List UInt8)}{b:List UInt8}(h:qm l)(hn:n=l.length)(hb:b=dgs l):FW.post [.sl .plain nl n (bys b)]= .agg (bys (root l)):=by simp only[FW];rw[hn,hb,show nth [oH.sl .plain nl l.length (bys (dgs l))] 0=oH.sl .plain nl l.length (bys (dgs l)) from rfl,uv h]
def z7l:aW:=⟨λds=>∃(m:cH) (nl:Option Bool),ds=[.sl .plain nl 0 []],λ_=> .tup []⟩
def bos(l:List Bool):List oH:=l.map bo
def z0Aa(l:List oH):List Bool:=l.map asB
def Fc:CW:=⟨[0],[0],[],λds bs=>∃l:List Bool,0<l.length∧l.length<=1000000∧ds=[.bv 0 1 0 l.length l.length]∧bs 0=bos l,λ_ _=> .tup [],λds bs _=>bos (z0Aa (bs 0)).reverse⟩
end Go.Abs