/- Lemmas. -/
import Derived.Test.YtiehmnjjlbndlaaGreatDoorQ
set_option linter.all false
namespace Go.Abs
set_option maxRecDepth 100000
def plC(l:List (List UInt8)):List oH:=l.map λb=> .sl .plain (some false) b.length (bys b)
@[simp] theorem VJ(l:List (List UInt8)):(plC l).length=l.length:=by simp[plC]
theorem UL(a b:List (List UInt8)):plC a++plC b=plC (a++b):=by simp[plC]
@[simp] theorem Jt:∀l:List (List UInt8),au (plC l)=true
 |[]=>rfl
 |x::l=>by show(true&&au (plC l))=true;rw[Jt l];rfl
def TC(t:List (List UInt8)×List UInt8×List UInt8):oH:= .otup 1 none t.1.length (plC t.1) [.agg (bys t.2.1),.agg (bys t.2.2)]
def P6:aW:=⟨GS.pre,λds=>TC (yI (asI (nth ds 1)).toNat (asI (nth ds 2)).toNat (asB (nth ds 3)) (gBs (gCs (nth ds 0))) (gDs (nth ds 4)).reverse)⟩
theorem Sq{old:List UInt8}{m n:Nat}{w:Bool}{nl:Option Bool}{p:List (List UInt8)}{b:List UInt8}{k:Nat}(ho:old.length=16)(h1:1<=m)(h2:m<=n)(hn:n<=9223372036854775807)(hp:qm p)(hl:p.length<=1000)(hk:k=p.length)(hb:b=dgs p):P6.pre [.agg (bys old),i64 m,i64 n,bo w,.sl .plain nl k (bys b)]=True:=Es ho h1 h2 hn hp hl hk hb
theorem Gp{old:List UInt8}{m n:Nat}{w:Bool}{md:cH}{nl:Option Bool}{p:List (List UInt8)}{b:List UInt8}{k:Nat}(hp:qm p)(hk:k=p.length)(hb:b=dgs p):P6.post [.agg (bys old),i64 m,i64 n,bo w,.sl md nl k (bys b)]=TC (yI m n w old p.reverse):=by
 have e:gDs (nth [.agg (bys old),i64 m,i64 n,bo w,.sl md nl k (bys b)] 4)=p:=by rw[hk,hb];exact uv hp
 have e1:(asI (nth [.agg (bys old),i64 m,i64 n,bo w,.sl md nl k (bys b)] 1)).toNat=m:=Int.toNat_natCast m;have e2:(asI (nth [.agg (bys old),i64 m,i64 n,bo w,.sl md nl k (bys b)] 2)).toNat=n:=Int.toNat_natCast n;have e3:gBs (gCs (nth [.agg (bys old),i64 m,i64 n,bo w,.sl md nl k (bys b)] 0))=old:=by simp[nth,gCs]
 simp only[P6];rw[e,e1,e2,e3];rfl
theorem GR{old:List UInt8}:∀(q:List (List UInt8)) (m n:Nat) (w:Bool),(yI m n w old q).1.length<=2*q.length
 |[],m,n,w=>by simp[yI]
 |x::q,m,n,w=>by
  rw[yI];have h1:=GR (old:=old) q m (spl n) w;have h2:=GR (old:=old) q (m-spl n) (n-spl n) false;split
  ·simp
  split
  ·simp
  split<;>simp<;>omega
theorem G3{old:List UInt8}(ho:old.length=16):∀(q:List (List UInt8)) (m n:Nat) (w:Bool),qm q->∀b∈(yI m n w old q).1,b.length<=51
 |[],m,n,w,_,b,h=>by simp[yI] at h
 |x::q,m,n,w,hq,b,h=>by
  obtain⟨hx,hq⟩:=pN.1 hq;have two:∀u v:List UInt8,u.length=16->v.length=16->(mY 2 [u,v]).length<=51:=λu v hu hv=>by have:=zJ (t:=2) (De hu hv);simp only[List.length_cons,List.length_nil] at this;omega
  rw[yI] at h;split at h
  ·simp at h
  split at h
  ·simp at h
  split at h
  ·rcases List.mem_append.1 h with h|h
   ·exact G3 ho q m (spl n) w hq b h
   simp at h;rw[h];exact two _ _ (BU ho q m (spl n) w hq).2 hx
  rcases List.mem_append.1 h with h|h
  ·exact G3 ho q (m-spl n) (n-spl n) false hq b h
  simp at h;obtain⟨l1,l2⟩:=BU ho q (m-spl n) (n-spl n) false hq;rcases h with h|h
  ·rw[h];exact two _ _ hx l1
  rw[h];exact two _ _ hx l2
set_option maxHeartbeats 16000000 in
theorem z4t(E:Env)(k:Nat)(h21:E.G 21=v7)(h23:E.G 23=yy)(h28:E.G 28=zZ)(h195:E.G 195=LM)(h208:E.G 208=HG P6 Bu k):∀ds,(HG P6 Bu (k+1)).pre ds->ds.length=oP.n∧awp E oP.body (qH oP.res (P6.post ds)) (fP oP.wr ds):=by
 rintro _ ⟨⟨old,m,n,w,nl,p,ho,h1,hmn,hn,hp,hpl,rfl⟩,hk⟩;rw[ur,Gp hp rfl rfl];have hk:p.length<k+1:=hk;have tko:=oM ho;by_cases hw:m=n∧w=true
 ·obtain⟨rfl,rfl⟩:=hw;have b1:((m:Int)==(m:Int))=true:=by simp
  have eo:yI m m true old p.reverse=([],old,old):=by
   cases p.reverse with
   |nil=>rfl
   |cons x q=>rw[yI,if_pos ⟨rfl,rfl⟩]
  rw[eo,TC];simp(maxSteps:=999999) (disch:=first|omega|simp<;>omega|rfl) [fJ,oG,oF,oP,b1,kT,kF,dT,dF,ho,tko,oJ,plC]
 by_cases hp0:p.length=0
 ·have e0:p=[]:=List.length_eq_zero_iff.1 hp0;subst e0;have eo:yI m n w old [].reverse=([],old,old):=rfl;rw[eo,TC];by_cases he:m=n
  ·subst he;have hwf:w=false:=by
    cases w with
    |false=>rfl
    |true=>exact absurd ⟨rfl,rfl⟩ hw
   subst hwf;simp(maxSteps:=999999) (disch:=first|omega|simp<;>omega|rfl) [fJ,oG,oF,oP,kT,kF,dT,dF,ho,tko,oJ,plC]
  have b1:((m:Int)==(n:Int))=false:=beq_false_of_ne (by omega);simp(maxSteps:=999999) (disch:=first|omega|simp<;>omega|rfl) [fJ,oG,oF,oP,b1,kT,kF,dT,dF,ho,tko,oJ,plC]
 have hrev:p.reverse=ul p (p.length-1)::(p.take (p.length-1)).reverse:=by
  conv=>lhs;rw[Lo (p:=p) (by omega)]
  simp
 have hdl:=qL hp;have hat:=zW hp (show p.length-1<p.length by omega);have hal:=sG hp (show p.length-1<p.length by omega);have htk:=xt hp (p.length-1);have e1:((p.length:Int)-1).toNat=p.length-1:=by omega
 have r16:qm (p.take (p.length-1)):=sD hp _;have rl:(p.take (p.length-1)).length=p.length-1:=by simp
 have b0:((p.length:Int)==0)=false:=beq_false_of_ne (by omega);have tkx:=oM hal;rw[hrev];generalize hx:ul p (p.length-1)=x at*
 generalize hq:p.take (p.length-1)=q at*
 by_cases he:m=n
 ·subst he;have hwf:w=false:=by
   cases w with
   |false=>rfl
   |true=>exact absurd ⟨rfl,rfl⟩ hw
  subst hwf;have e:yI m m false old (x::q.reverse)=([],x,x):=by rw[yI,if_neg (by simp),if_pos rfl]
  rw[e,TC];simp(maxSteps:=999999) (disch:=first|omega|simp<;>omega|rfl) [fJ,oG,oF,oP,qx,kT,kF,dT,dF,ho,tko,oJ,b0,hdl,e1,hat,hal,tkx,htk,plC];omega
 have b1:((m:Int)==(n:Int))=false:=beq_false_of_ne (by omega);have hlt:m<n:=by omega
 have hs:=kK (n:=n) (by omega);have hs1:=yl n;have hst:=AX (n:=n) (by omega);have sp:LM.pre [i64 n]=True:=EO (by omega) (by omega);have q16r:=E1 r16;have two:∀u v:List UInt8,u.length=16->v.length=16->(mY 2 [u,v]).length<=51:=λu v hu hv=>by have:=zJ (t:=2) (De hu hv);simp only[List.length_cons,List.length_nil] at this;omega
 generalize hK:spl n=K at*
 by_cases hc:m<=K
 ·have hci:(m:Int)<=(K:Int):=by omega
  have hp1:(HG P6 Bu k).pre [.agg (bys old),i64 m,i64 K,bo w,.sl .plain nl (p.length-1) (bys (dgs q))]=True:=eq_true ⟨of_eq_true (Sq ho h1 hc (by omega) r16 (by omega) rl.symm rfl),by show p.length-1<k;omega⟩;have hq1:(HG P6 Bu k).post [.agg (bys old),i64 m,i64 K,bo w,.sl .plain nl (p.length-1) (bys (dgs q))]=TC (yI m K w old q.reverse):=Gp r16 rl.symm rfl;rw[TC] at hq1;have e:yI m n w old (x::q.reverse)=((yI m K w old q.reverse).1++[mY 2 [(yI m K w old q.reverse).2.2,x]],(yI m K w old q.reverse).2.1,cT (mY 2 [(yI m K w old q.reverse).2.2,x])):=by rw[yI,if_neg hw,if_neg he,hK,if_pos hc]
  obtain⟨t1,t2⟩:=BU ho q.reverse m K w q16r;have cnt:=GR (old:=old) q.reverse m K w;rw[e,TC];generalize yI m K w old q.reverse=T at*
  obtain⟨L,u,v⟩:=T;simp only at t1 t2 cnt hq1⊢;have ty:=two v x t2 hal;have s1:zZ.pre [.sl .plain (some false) (mY 2 [v,x]).length (bys (mY 2 [v,x]))]=True:=D1 rfl (by omega);have s2:zZ.post [.sl .plain (some false) (mY 2 [v,x]).length (bys (mY 2 [v,x]))]= .agg (bys (cT (mY 2 [v,x]))):=ES _ _ _;have i1:=R1 (t:=2) (nl:=some false) t2 hal;have i2:=RP 2 (some false) v x;generalize hy:mY 2 [v,x]=y at*
  have s3:=iH y;generalize cT y=z at*
  have ea:plC (L++[y])=plC L++[.sl .plain (some false) y.length (bys y)]:=(UL _ _).symm;have eb:(L++[y]).length=L.length+1:=by simp
  rw[ea,eb];have tk1:=oM t1;have tk2:=oM t2;have tk3:=oM s3;have bl:=VJ L;have pb:=Jt L;generalize plC L=bs at*
  rw[List.length_reverse,rl] at cnt;simp(maxSteps:=999999) (disch:=first|omega|simp<;>omega|rfl) [fJ,oG,oF,oP,qx,rM,kT,kF,dT,dF,ho,tko,oJ,b1,b0,hdl,e1,hat,hal,tkx,htk,h195,sp,hK,hci,h208,hp1,hq1,h23,wB,h21,i1,i2,h28,s1,s2,s3,t1,t2,tk1,tk2,tk3,bl,pb];omega
 have hci:¬(m:Int)<=(K:Int):=by omega
 have hsm:(m:Int)-(K:Int)=((m-K:Nat):Int):=by omega
 have hsn:(n:Int)-(K:Int)=((n-K:Nat):Int):=by omega
 have hp1:(HG P6 Bu k).pre [.agg (bys old),i64 (m-K:Nat),i64 (n-K:Nat),bo false,.sl .plain nl (p.length-1) (bys (dgs q))]=True:=eq_true ⟨of_eq_true (Sq ho (by omega) (by omega) (by omega) r16 (by omega) rl.symm rfl),by show p.length-1<k;omega⟩;have hq1:(HG P6 Bu k).post [.agg (bys old),i64 (m-K:Nat),i64 (n-K:Nat),bo false,.sl .plain nl (p.length-1) (bys (dgs q))]=TC (yI (m-K) (n-K) false old q.reverse):=Gp r16 rl.symm rfl;rw[TC] at hq1;have e:yI m n w old (x::q.reverse)=((yI (m-K) (n-K) false old q.reverse).1++[mY 2 [x,(yI (m-K) (n-K) false old q.reverse).2.1],mY 2 [x,(yI (m-K) (n-K) false old q.reverse).2.2]],cT (mY 2 [x,(yI (m-K) (n-K) false old q.reverse).2.1]),cT (mY 2 [x,(yI (m-K) (n-K) false old q.reverse).2.2])):=by rw[yI,if_neg hw,if_neg he,hK,if_neg hc]
 obtain⟨t1,t2⟩:=BU ho q.reverse (m-K) (n-K) false q16r;have cnt:=GR (old:=old) q.reverse (m-K) (n-K) false;rw[e,TC];generalize yI (m-K) (n-K) false old q.reverse=T at*
 obtain⟨L,u,v⟩:=T;simp only at t1 t2 cnt hq1⊢;have ty:=two x u hal t1;have ty':=two x v hal t2;have s1:zZ.pre [.sl .plain (some false) (mY 2 [x,u]).length (bys (mY 2 [x,u]))]=True:=D1 rfl (by omega);have s2:zZ.post [.sl .plain (some false) (mY 2 [x,u]).length (bys (mY 2 [x,u]))]= .agg (bys (cT (mY 2 [x,u]))):=ES _ _ _;have r1:zZ.pre [.sl .plain (some false) (mY 2 [x,v]).length (bys (mY 2 [x,v]))]=True:=D1 rfl (by omega);have r2:zZ.post [.sl .plain (some false) (mY 2 [x,v]).length (bys (mY 2 [x,v]))]= .agg (bys (cT (mY 2 [x,v]))):=ES _ _ _;have i1:=R1 (t:=2) (nl:=some false) hal t1;have i2:=RP 2 (some false) x u;have i3:=R1 (t:=2) (nl:=some false) hal t2;have i4:=RP 2 (some false) x v;generalize hy:mY 2 [x,u]=y at*
 generalize hy':mY 2 [x,v]=y' at*
 have s3:=iH y;have r3:=iH y';generalize cT y=z at*
 generalize cT y'=z' at*
 have ea:plC (L++[y,y'])=plC L++[.sl .plain (some false) y.length (bys y),.sl .plain (some false) y'.length (bys y')]:=(UL _ _).symm;have eb:(L++[y,y']).length=L.length+2:=by simp
 rw[ea,eb];have tk1:=oM t1;have tk2:=oM t2;have tk3:=oM s3;have tk4:=oM r3;have bl:=VJ L;have pb:=Jt L;generalize plC L=bs at*
 rw[List.length_reverse,rl] at cnt;simp(maxSteps:=999999) (disch:=first|omega|simp<;>omega|rfl) [fJ,oG,oF,oP,qx,rM,tM,kT,kF,dT,dF,ho,tko,oJ,b1,b0,hdl,e1,hat,hal,tkx,htk,h195,sp,hK,hci,hsm,hsn,h208,hp1,hq1,h23,wB,h21,i1,i2,i3,i4,h28,s1,s2,s3,r1,r2,r3,t1,t2,tk1,tk2,tk3,tk4,bl,pb];omega
set_option maxHeartbeats 8000000
def EG:CM:=⟨[0],[],λds=>∃(s:List (List UInt8)×Bool) (x:List UInt8),s.1.length<=1000000000∧x.length=16∧ds=[.ep (hA s),.agg (bys x)],
 λds=> .agg (bys (cT (mY 1 [gBs (gCs (nth ds 1))]))),λds _=>hA (DG (gH (nth ds 0)) (mY 1 [gBs (gCs (nth ds 1))]))⟩
@[simp] theorem z3xa:EG.bx=[0]:=rfl
@[simp] theorem z0ya:EG.nb=[]:=rfl
theorem R0{s:List (List UInt8)×Bool}{x:List UInt8}(h:s.1.length<=1000000000)(hx:x.length=16):EG.pre [.ep (hA s),.agg (bys x)]=True:=eq_true ⟨s,x,h,hx,rfl⟩
@[simp] theorem WZ(v:oH)(x:List UInt8):EG.post [v,.agg (bys x)]= .agg (bys (cT (mY 1 [x]))):=by simp[EG,nth,gCs]
@[simp] theorem Zd(s:List (List UInt8)×Bool)(x:List UInt8)(j:Nat):EG.out [.ep (hA s),.agg (bys x)] j=hA (DG s (mY 1 [x])):=by show hA (DG (gH (.ep (hA s))) (mY 1 [gBs (bys x)]))=_;rw[SV];simp
def DP:CM:=⟨[0],[],λds=>∃(s:List (List UInt8)×Bool) (a b:List UInt8),s.1.length<=1000000000∧a.length=16∧b.length=16∧ds=[.ep (hA s),.agg (bys a),.agg (bys b)],
 λds=> .agg (bys (cT (mY 2 [gBs (gCs (nth ds 1)),gBs (gCs (nth ds 2))]))),λds _=>hA (DG (gH (nth ds 0)) (mY 2 [gBs (gCs (nth ds 1)),gBs (gCs (nth ds 2))]))⟩
@[simp] theorem z1Aa:DP.bx=[0]:=rfl
@[simp] theorem z6wa:DP.nb=[]:=rfl
theorem M8{s:List (List UInt8)×Bool}{a b:List UInt8}(h:s.1.length<=1000000000)(ha:a.length=16)(hb:b.length=16):DP.pre [.ep (hA s),.agg (bys a),.agg (bys b)]=True:=eq_true ⟨s,a,b,h,ha,hb,rfl⟩
@[simp] theorem z75(v:oH)(a b:List UInt8):DP.post [v,.agg (bys a),.agg (bys b)]= .agg (bys (cT (mY 2 [a,b]))):=by simp[DP,nth,gCs]
@[simp] theorem z6la(s:List (List UInt8)×Bool)(a b:List UInt8)(j:Nat):DP.out [.ep (hA s),.agg (bys a),.agg (bys b)] j=hA (DG s (mY 2 [a,b])):=by show hA (DG (gH (.ep (hA s))) (mY 2 [gBs (bys a),gBs (bys b)]))=_;rw[SV];simp
def Fj:CM:=⟨[0],[],λds=>∃(s:List (List UInt8)×Bool) (x:pm),s.1.length<=1000000000∧x.small∧(tL x).length<=900000000000∧ds=[.ep (hA s),.agg (qf none none none x)],
 λds=> .agg (bys (cT (mY 8 [tL (K4 (gCs (nth ds 1)))]))),λds _=>hA (DG (gH (nth ds 0)) (mY 8 [tL (K4 (gCs (nth ds 1)))]))⟩
@[simp] theorem z7ra:Fj.bx=[0]:=rfl
@[simp] theorem z7Aa:Fj.nb=[]:=rfl
theorem RM{s:List (List UInt8)×Bool}{x:pm}(h:s.1.length<=1000000000)(hx:x.small)(hl:(tL x).length<=900000000000):Fj.pre [.ep (hA s),.agg (qf none none none x)]=True:=eq_true ⟨s,x,h,hx,hl,rfl⟩
theorem Kf{x:pm}(v:oH)(h:x.small):Fj.post [v,.agg (qf none none none x)]= .agg (bys (cT (mY 8 [tL x]))):=by show oH.agg (bys (cT (mY 8 [tL (K4 (qf none none none x))])))=_;rw[ME h]
theorem MP{x:pm}(s:List (List UInt8)×Bool)(h:x.small)(j:Nat):Fj.out [.ep (hA s),.agg (qf none none none x)] j=hA (DG s (mY 8 [tL x])):=by show hA (DG (gH (.ep (hA s))) (mY 8 [tL (K4 (qf none none none x))]))=_;rw[SV,ME h]
theorem z8E(t:Int){x:List UInt8}(hx:x.length=16):(mY t [x]).length<=51:=by have:=zJ (t:=t) (pN.2 ⟨hx,tg⟩);simp only[List.length_cons,List.length_nil] at this;omega
theorem z3K(t:Int){a b:List UInt8}(ha:a.length=16)(hb:b.length=16):(mY t [a,b]).length<=51:=by have:=zJ (t:=t) (De ha hb);simp only[List.length_cons,List.length_nil] at this;omega
theorem Zk(E:Env)(h21:E.G 21=v7)(h23:E.G 23=yy)(h401:E.M 401=Ks):∀ds p,EG.pre ds->ds.length=pE.n∧awp E pE.body (PY pE.res EG p ds) (nW EG.bx p ds):=by rintro _ p ⟨s,x,h,hx,rfl⟩;have i1:=z03 (t:=1) (nl:=some false) hx;have i2:=z8o 1 (some false) x;have hl:=z8E 1 hx;have l2:=iH (mY 1 [x]);have q1:Ks.pre [.ep (hA s),.sl .plain (some false) (mY 1 [x]).length (bys (mY 1 [x]))]=True:=Kc h (by omega) rfl;have tk:=oM l2;have tx:=oM hx;simp(maxSteps:=999999) (disch:=first|omega|simp<;>omega|rfl) [fJ,oG,oF,pE,hx,h21,h23,wB,h401,i1,i2,q1,oJ,l2,tk,tx];skip
theorem Zl(E:Env)(h21:E.G 21=v7)(h23:E.G 23=yy)(h401:E.M 401=Ks):∀ds p,DP.pre ds->ds.length=pD.n∧awp E pD.body (PY pD.res DP p ds) (nW DP.bx p ds):=by rintro _ p ⟨s,x,y,h,hx,hy,rfl⟩;have i1:=R1 (t:=2) (nl:=some false) hx hy;have i2:=RP 2 (some false) x y;have hl:=z3K 2 hx hy;have l2:=iH (mY 2 [x,y]);have q1:Ks.pre [.ep (hA s),.sl .plain (some false) (mY 2 [x,y]).length (bys (mY 2 [x,y]))]=True:=Kc h (by omega) rfl;have tk:=oM l2;have tx:=oM hx;have ty:=oM hy;simp(maxSteps:=999999) (disch:=first|omega|simp<;>omega|rfl) [fJ,oG,oF,pD,hx,hy,h21,h23,wB,h401,i1,i2,q1,oJ,l2,tk,tx,ty];skip
theorem z5z(t:Int){x:List UInt8}(hl:x.length<=900000000000):(mY t [x]).length<=900000000010:=by have h1:=MK (s:=x) (by omega);simp only[mY,List.length_cons,List.flatMap_cons,List.flatMap_nil,List.append_nil];omega
theorem z9K(E:Env)(h21:E.G 21=v7)(h333:E.G 333=G2)(h401:E.M 401=Ks):∀ds p,Fj.pre ds->ds.length=pt.n∧awp E pt.body (PY pt.res Fj p ds) (nW Fj.bx p ds):=by
 rintro _ p ⟨s,x,h,hx,hl,rfl⟩;have l30:=Bq hx;have e1:=Mb (nc:=none) (nm:=none) (ng:=none) hx;have e2:=Eg (nc:=none) (nm:=none) (ng:=none) hx;have p1:=Kf (.ep (hA s)) hx;have p2:=λj=>MP s hx j;have f1:∀c∈qf none none none x,ah c:=λc hc=>(w7 none none none x c hc).2;have f2:∀c∈qf none none none x,ao c=false:=by simp[qf,yP,or_imp,forall_and]
 have f3:au (qf none none none x)=true:=(bE _).2 λc hc=>(w7 none none none x c hc).1;generalize qf none none none x=X at*
 generalize tL x=y at*
 have i1:v7.pre [i64 8,.sl .plain (some false) 1 [st y]]=True:=Eh (l:=[y]) rfl (by simp[Co];omega);have i2:=z8o 8 (some false) y;have hl2:=z5z 8 hl;have l2:=iH (mY 8 [y]);have q1:Ks.pre [.ep (hA s),.sl .plain (some false) (mY 8 [y]).length (bys (mY 8 [y]))]=True:=Kc h (by omega) rfl;have tk:=oM l2;have tX:X.take 30=X:=List.take_of_length_le (by omega);simp(maxSteps:=999999) (disch:=first|omega|simp<;>omega|rfl) [fJ,oG,oF,pt,l30,tX,e1,e2,p1,p2,h21,h333,h401,i1,i2,q1,oJ,l2,tk,f3];exact⟨f1,f2⟩
def NX(c:CM)(μ:List oH->Nat)(n:Nat):CM:={c with pre:=λds=>c.pre ds∧μ ds<n}
def Cx.wM(K:Cx)(f:Nat)(c:CM):Cx:={K with E:={K.E with M:=λg=>if g=f then c else K.E.M g}}
section
variable {K : Cx}
theorem KT{f:Nat}{c:CM}{base:aZ}{g:Gh}{w:World}{bx:Nat->Option (List oH)}:Inv (K.wM f c) base g w bx↔Inv K base g w bx:=
 ⟨λh=>⟨h.fr,h.sS,h.inj,h.bxok,h.nobx,h.muW,h.owW,h.glob,h.kp,h.obok,h.old⟩,λh=>⟨h.fr,h.sS,h.inj,h.bxok,h.nobx,h.muW,h.owW,h.glob,h.kp,h.obok,h.old⟩⟩
theorem IX{f g:Nat}{c:CM}{c':CM}:ru (K.wM f c) g c'↔ru K g c':=by
 constructor
 all_goals
  intro h;refine⟨h.1,λg0 w ds vs hI hA hp=> ?_⟩
  first
  |refine(h.2 g0 w ds vs (KT.1 hI) hA hp).mono ?_
   rintro e w' ⟨v,g',h1,h2,h3,h4⟩;exact⟨v,g',h1,KT.2 h2,h3,h4⟩
  |refine(h.2 g0 w ds vs (KT.2 hI) hA hp).mono ?_
   rintro e w' ⟨v,g',h1,h2,h3,h4⟩;exact⟨v,g',h1,KT.1 h2,h3,h4⟩
theorem Uk{f g:Nat}{c:CM}{c':CW}(h:zj K g c'):zj (K.wM f c) g c':=by refine⟨h.1,λg0 w ds bs vs hI hA hc hp=> ?_⟩;refine(h.2 g0 w ds bs vs (KT.1 hI) hA hc hp).mono ?_;rintro e w' ⟨v,g',h1,h2,h3,h4⟩;exact⟨v,g',h1,KT.2 h2,h3,h4⟩
theorem z3za{f:Nat}{c:CM}{p:Nat×Bool}(hp:p≠(f,true))(h:VB K p):VB (K.wM f c) p:=by
 obtain⟨g,b⟩:=p;cases b with
 |false=>exact h
 |true=>
  have hg:g≠f:=λe=>hp (by rw[e]);have e:(K.wM f c).E.M g=K.E.M g:=if_neg hg
  revert h
  simp only[VB];cases Nat.ble 999999990 g with
  |true=>exact λh=>⟨h.call,h.len,h.wstr,h.write,h.str⟩
  |false=>
   cases Nat.ble 500000000 g with
   |true=>exact Uk
   |false=>exact λh=>by rw[e];exact IX.2 h
theorem S7{f:Nat}{c:CM}(μ:List oH->Nat)(hcal:ek K.P (K.nu f))(h:∀n,ru K f (NX c μ n)->ru K f (NX c μ (n+1))):ru K f c:=by
 have all:∀n,ru K f (NX c μ n):=λn=>by
  induction n with
  |zero=>exact⟨hcal,λg w ds vs _ _ hp=>absurd hp.2 (Nat.not_lt_zero _)⟩
  |succ n ih=>exact h n ih
 exact⟨hcal,λg w ds vs hI hA hp=>(all (μ ds+1)).2 g w ds vs hI hA ⟨hp,Nat.lt_succ_self _⟩⟩
theorem Kb{f:Nat}{fn:Func}{F:nH}{c:CM}(μ:List oH->Nat)(h9:(Nat.ble 999999990 f||Nat.ble 500000000 f)=false)(hf:K.P.funcs[K.nu f]? =some fn)(hc':∀c',pz (K.wM f c') F fn=true)(hv:∀p∈ae F.body,p≠(f,true)->VB K p)(hb:∀j∈c.bx,j<F.n)
  (h:∀n ds p,(NX c μ (n+1)).pre ds->ds.length=F.n∧awp (K.wM f (NX c μ n)).E F.body (PY F.res c p ds) (nW c.bx p ds)) (hfl:sg F.body=true) (ht:tF F.body=true):ru K f c:=by
 have hname:fn.body.isSome=true∧fn.name≠ "runtime.NumGoroutine" :=by
  have hc:=hc' c;simp only[pz,Bool.and_eq_true,Bool.not_eq_true'] at hc;refine⟨?_,by simpa using hc.1.1.1⟩;cases hb:fn.body with
  |none=>simp[hb] at hc
  |some _=>rfl
 refine S7 μ ⟨fn,hf,hname.1,?_⟩ λn ih=> ?_
 ·have:=hc' c;simp only[pz,Bool.and_eq_true,Bool.not_eq_true'] at this;exact this.1.1.1
 refine IX.1 (Kl (K:=K.wM f (NX c μ n)) (f:=f) (F:=F) (c:=NX c μ (n+1)) hf (hc' _) (AD (λp hp=> ?_) hfl) hb (h n) ht);by_cases e:p=(f,true)
 ·subst e;have e1:(K.wM f (NX c μ n)).E.M f=NX c μ n:=if_pos rfl;simp only[Bool.or_eq_false_iff] at h9;simp only[VB,h9.1,h9.2,e1];exact IX.2 ih
 exact z3za e (hv p hp e)
end
set_option maxRecDepth 100000
set_option maxHeartbeats 8000000
def tK(l:List (List UInt8)):List (List UInt8):=
 if h:2<=l.length then tK (l.take (spl l.length))++tK (l.drop (spl l.length))++[mY 2 [root (l.take (spl l.length)),root (l.drop (spl l.length))]] else [mY 1 l]
termination_by l.length
decreasing_by
 ·have:=kK h;rw[List.length_take];omega
 have:=yl l.length;rw[List.length_drop];omega
theorem OW{l:List (List UInt8)}(h:2<=l.length):tK l=tK (l.take (spl l.length))++tK (l.drop (spl l.length))++[mY 2 [root (l.take (spl l.length)),root (l.drop (spl l.length))]]:=by rw[tK,dif_pos h]
theorem GW{l:List (List UInt8)}(h:¬2<=l.length):tK l=[mY 1 l]:=by rw[tK,dif_neg h]
theorem Cu:∀(n:Nat) (l:List (List UInt8)),l.length=n->(1<=n->(tK l).length+1<=2*n)∧∀i∈B9 l,i∈tK l:=by
 intro n;induction n using Nat.strongRecOn with
 |ind n ih=>
  intro l hl;by_cases h:2<=l.length
  ·have h1:=kK h;have h2:=yl l.length;have e1:(l.take (spl l.length)).length=spl l.length:=by rw[List.length_take];omega
   have e2:(l.drop (spl l.length)).length=l.length-spl l.length:=List.length_drop;obtain⟨a1,a2⟩:=ih (spl l.length) (by omega) _ e1;obtain⟨b1,b2⟩:=ih (l.length-spl l.length) (by omega) _ e2;rw[OW h,Ed h];refine⟨λ_=> ?_,λi hi=> ?_⟩
   ·simp only[List.length_append,List.length_cons,List.length_nil];have:=a1 h2;have:=b1 (by omega);omega
   rcases List.mem_cons.1 hi with rfl|hi
   ·simp
   rcases List.mem_append.1 hi with hi|hi
   ·simp[a2 i hi]
   simp[b2 i hi]
  rw[GW h,Nz h];exact⟨λ_=>by simp;omega,λi hi=>hi⟩
theorem GB(l:List (List UInt8)):(tK l).length<=2*l.length+1:=by
 by_cases h:1<=l.length
 ·have:=(Cu _ l rfl).1 h;omega
 rw[GW (by omega)];simp
def K6:CM:=⟨[0],[],λds=>∃(s:List (List UInt8)×Bool) (nl:Option Bool) (l:List (List UInt8)),qm l∧l.length<=1000000∧s.1.length+2*l.length+1<=1000000000∧ds=[.ep (hA s),.sl .plain nl l.length (bys (dgs l))],
 λds=> .agg (bys (root (gDs (nth ds 1)))),λds _=>hA (qS (gH (nth ds 0)) (tK (gDs (nth ds 1))))⟩
def z86(ds:List oH):Nat:=gNn (nth ds 1)
@[simp] theorem z0Ba(c:CM)(μ:List oH->Nat)(n:Nat):(NX c μ n).bx=c.bx:=rfl
@[simp] theorem z0sa(c:CM)(μ:List oH->Nat)(n:Nat):(NX c μ n).nb=c.nb:=rfl
@[simp] theorem z1Y(c:CM)(μ:List oH->Nat)(n:Nat):(NX c μ n).post=c.post:=rfl
@[simp] theorem z1pa(c:CM)(μ:List oH->Nat)(n:Nat):(NX c μ n).out=c.out:=rfl
@[simp] theorem rtH_bx:K6.bx=[0]:=rfl
@[simp] theorem rtH_nb:K6.nb=[]:=rfl
theorem MH{s:List (List UInt8)×Bool}{nl:Option Bool}{l:List (List UInt8)}{n:Nat}{b:List UInt8}(h:qm l)(hl:l.length<=1000000)(hs:s.1.length+2*l.length+1<=1000000000)(hn:n=l.length)(hb:b=dgs l):K6.pre [.ep (hA s),.sl .plain nl n (bys b)]=True:=eq_true ⟨s,nl,l,h,hl,hs,by rw[hn,hb]⟩
theorem Gm{v:oH}{md:cH}{nl:Option Bool}{l:List (List UInt8)}{n:Nat}{b:List UInt8}(h:qm l)(hn:n=l.length)(hb:b=dgs l):K6.post [v,.sl md nl n (bys b)]= .agg (bys (root l)):=by rw[hn,hb];show oH.agg (bys (root (gDs (.sl md nl l.length (bys (dgs l))))))=_;rw[uv h]
theorem JQ{s:List (List UInt8)×Bool}{md:cH}{nl:Option Bool}{l:List (List UInt8)}{n:Nat}{b:List UInt8}(h:qm l)(hn:n=l.length)(hb:b=dgs l)(j:Nat):K6.out [.ep (hA s),.sl md nl n (bys b)] j=hA (qS s (tK l)):=by rw[hn,hb];show hA (qS (gH (.ep (hA s))) (tK (gDs (.sl md nl l.length (bys (dgs l))))))=_;rw[uv h,SV]
theorem z5aa(E:Env)(k:Nat)(h21:E.G 21=v7)(h195:E.G 195=LM)(h401:E.M 401=Ks)(h402:E.M 402=EG)(h403:E.M 403=DP)(h398:E.M 398=NX K6 z86 k):∀ds p,(NX K6 z86 (k+1)).pre ds->ds.length=o9.n∧awp E o9.body (PY o9.res K6 p ds) (nW K6.bx p ds):=by
 rintro _ p ⟨⟨s,nl,l,h,hl,hs,rfl⟩,hk⟩;have hk:l.length<k+1:=hk;have hpost:=Gm (v:= .ep (hA s)) (md:= .plain) (nl:=nl) h rfl rfl;have hout:=λj=>JQ (s:=s) (md:= .plain) (nl:=nl) h rfl rfl j;by_cases h0:l.length=0
 ·have e:l=[]:=List.length_eq_zero_iff.1 h0;subst e;have hr:root []=cT (mY 1 []):=Ax (by decide);have hi:tK []=[mY 1 []]:=GW (by decide);rw[hr] at hpost;rw[hi] at hout;have hp:v7.pre [i64 1,.sl .plain (some true) 0 []]=True:=Eh (l:=[]) rfl (by simp[Co]);have hq:v7.post [i64 1,.sl .plain (some true) 0 []]= .sl (.own 1) (some false) (mY 1 []).length (bys (mY 1 [])):=Hq 1 (some true) 0 [];have l1:(mY 1 []).length=1:=rfl;have l2:=iH (mY 1 []);generalize mY 1 []=y at*
  have q1:Ks.pre [.ep (hA s),.sl .plain (some false) y.length (bys y)]=True:=Kc (by simp at hs;omega) (by omega) rfl;have tk:=oM l2;have pc:=Gs s y [];rw[Dn] at pc;simp only[pc] at hout;have hpost:K6.post [.ep (hA s),.sl .plain nl 0 []]= .agg (bys (cT y)):=hpost;have hout:∀j,K6.out [.ep (hA s),.sl .plain nl 0 []] j=hA (DG s y):=hout;simp(maxSteps:=999999) (disch:=first|omega|simp<;>omega|rfl) [fJ,oG,oF,o9,h21,hp,hq,h401,q1,kT,kF,dT,dF,hpost,hout,oJ,l2,tk];skip
 by_cases h1:l.length=1
 ·obtain⟨d,rfl⟩:=List.length_eq_one_iff.1 h1;have hd:d.length=16:=(pN.1 h).1;have hr:root [d]=cT (mY 1 [d]):=Ax (by simp);have hi:tK [d]=[mY 1 [d]]:=GW (by simp);rw[hr] at hpost;rw[hi] at hout;have l2:=iH (mY 1 [d]);have q1:EG.pre [.ep (hA s),.agg (bys d)]=True:=R0 (by simp at hs;omega) hd;have tk:=oM l2;have td:=oM hd;have pc:=Gs s (mY 1 [d]) [];rw[Dn] at pc;simp only[pc] at hout;have e:dgs [d]=d:=by simp[dgs]
  rw[e] at hpost;simp only[e] at hout;have hpost:K6.post [.ep (hA s),.sl .plain nl 1 (bys d)]= .agg (bys (cT (mY 1 [d]))):=hpost;have hout:∀j,K6.out [.ep (hA s),.sl .plain nl 1 (bys d)] j=hA (DG s (mY 1 [d])):=hout;simp(maxSteps:=999999) (disch:=first|omega|simp<;>omega|rfl) [fJ,oG,oF,o9,rZ,h402,q1,kT,kF,dT,dF,hpost,hout,oJ,l2,tk,td,hd];skip
 have h2:2<=l.length:=by omega
 have b0:((l.length:Int)==0)=false:=beq_false_of_ne (by omega);have b1:((l.length:Int)==1)=false:=beq_false_of_ne (by omega);have hd:=qL h;have hs0:=kK h2;have hs1:=yl l.length;have hr:root l=cT (mY 2 [root (l.take (spl l.length)),root (l.drop (spl l.length))]):=EP h2;have hri:=OW h2;have z1:=GB (l.take (spl l.length));have z2:=GB (l.drop (spl l.length));have y1:=(Cu _ (l.take (spl l.length)) rfl).1;have y2:=(Cu _ (l.drop (spl l.length)) rfl).1;generalize hK:spl l.length=K at*
 have g1:qm (l.take K):=sD h K;have g2:qm (l.drop K):=Nn h K;have htk:(dgs (l.drop K)).take ((l.length-K)*16)=dgs (l.drop K):=List.take_of_length_le (by rw[qL g2,List.length_drop];exact Nat.le_refl _);have lk1:(l.take K).length=K:=by rw[List.length_take];omega
 have lk2:(l.drop K).length=l.length-K:=List.length_drop;have y1:=y1 (by omega);have y2:=y2 (by omega);have q1:=Ab s (tK (l.take K));have q2:=Ab (qS s (tK (l.take K))) (tK (l.drop K));have hp1:(NX K6 z86 k).pre [.ep (hA s),.sl .plain nl K (bys (dgs (l.take K)))]=True:=eq_true ⟨of_eq_true (MH g1 (by omega) (by omega) lk1.symm rfl),by show K<k;omega⟩;have hq1:=Gm (v:= .ep (hA s)) (md:= .plain) (nl:=nl) g1 lk1.symm rfl;have hx1:=JQ (s:=s) (md:= .plain) (nl:=nl) g1 lk1.symm rfl;have hp2:(NX K6 z86 k).pre [.ep (hA (qS s (tK (l.take K)))),.sl .plain nl (l.length-K) (bys (dgs (l.drop K)))]=True:=eq_true ⟨of_eq_true (MH g2 (by omega) (by omega) lk2.symm rfl),by show l.length-K<k;omega⟩;have hq2:=Gm (v:= .ep (hA (qS s (tK (l.take K))))) (md:= .plain) (nl:=nl) g2 lk2.symm rfl;have hx2:=JQ (s:=qS s (tK (l.take K))) (md:= .plain) (nl:=nl) g2 lk2.symm rfl;have r1:=sH (l.take K);have r2:=sH (l.drop K);have hn:DP.pre [.ep (hA (qS (qS s (tK (l.take K))) (tK (l.drop K)))),.agg (bys (root (l.take K))),.agg (bys (root (l.drop K)))]=True:=M8 (by omega) r1 r2;have hsl:=iH (mY 2 [root (l.take K),root (l.drop K)]);have tk:=oM hsl;rw[hr] at hpost;simp only[hri,EC,Ag] at hout;generalize qS s (tK (l.take K))=s1 at*
 generalize qS s1 (tK (l.drop K))=s2 at*
 generalize root (l.take K)=A at*
 generalize root (l.drop K)=B at*
 have dt:=xt h K;have dd:=IK h K;simp(maxSteps:=999999) (disch:=first|omega|simp<;>omega|rfl) [fJ,oG,oF,o9,rZ,b0,b1,h195,EO,hK,hd,dt,dd,htk,h398,hp1,hq1,hx1,hp2,hq2,hx2,h403,hn,hpost,hout,kT,kF,dT,dF,oJ,tk,hsl];exact⟨Nat.le_of_lt hs0,rfl⟩
set_option maxHeartbeats 4000000
def TF:aW:=⟨λds=>∃(nl:Option Bool) (n:Nat) (cs:List oH),cs.length=n*30∧au cs=true∧ds=[.sl .plain nl n cs],λds=> .fn 372 [] [.ep [nth ds 0]]⟩
theorem z39(E:Env):∀ds,TF.pre ds->ds.length=tU.n∧awp E tU.body (qH tU.res (TF.post ds)) (fP tU.wr ds):=by rintro _ ⟨nl,n,cs,hl,hp,rfl⟩;simp(maxSteps:=999999) (disch:=first|omega|simp<;>omega|rfl) [fJ,tU,TF,nth]
def HS(cs:List oH)(i:Nat):oH:= .agg ((cs.drop (i*30)).take 30)
def Ph(c:aW):ItC:=⟨λx y=>x=[]∧∃(nl:Option Bool) (n:Nat) (cs:List oH),cs.length=n*30∧n<=1000000∧(∀d∈cs,ak d=true∧ah d∧ao d=false)∧(∀i,i<n->c.pre [HS cs i]∧ak (c.post [HS cs i])=true∧dem (c.post [HS cs i])=c.post [HS cs i]∧yOk (c.post [HS cs i])=true∧aC (c.post [HS cs i])=true)∧y=[.ep [.sl .plain nl n cs]],
 λ_ y i=>match nth y 0 with| .ep [.sl _ _ n cs]=>if i<n then some [c.post [HS cs i]] else none|_=>none,[]⟩
@[simp] theorem z4xa(c:aW):(Ph c).lv=[]:=rfl
theorem UC(c:aW)(m:cH)(nl:Option Bool)(n:Nat)(cs:List oH)(i:Nat):(Ph c).el [] [.ep [.sl m nl n cs]] i=if i<n then some [c.post [HS cs i]] else none:=rfl
theorem z5c(E:Env)(l:Nat)(el:Nat->Option (List oH))(s t:Nat)(keep:List Nat)(gs:List tJ)(zs:List af)(Q:IQ)(p:Nat×Bool)(st:ASt):C4 E l el (.lean s t keep gs zs) Q p st=∃d ds,lk st.org t=some (.ep (d::ds))∧awp E (.region keep gs zs) (λe st'=>Q e p st') (JC s d st):=rfl
theorem z9d(E:Env)(l:Nat)(el:Nat->Option (List oH))(s t:Nat)(keep:List Nat)(gs:List tJ)(zs:List af)(b:zr)(Q:IQ)(p:Nat×Bool)(st:ASt):C4 E l el (.seq (.lean s t keep gs zs) b) Q p st=C4 E l el (.lean s t keep gs zs) (Ok (λp st=>C4 E l el b Q p st) Q) p st:=rfl
theorem TY(E:Env)(c:aW)(h303:E.G 303=c):∀x y l,(Ph c).pre x y->x.length=pO.nx∧y.length=pO.ny∧C4 E l ((Ph c).el x y) pO.body (itQ ((Ph c).el x y)) (0,false) (WB l [] x y):=by
 rintro _ _ ln ⟨rfl,nl,n,cs,hlen,hn,hcs,hc,rfl⟩;have hel:∀i,(Ph c).el [] [.ep [.sl .plain nl n cs]] i=if i<n then some [c.post [HS cs i]] else none:=λ_=>rfl;refine⟨rfl,rfl,?_⟩;generalize hQ:itQ ((Ph c).el [] [.ep [.sl .plain nl n cs]])=Q;have hdone:∀p st',p.2=true->Q .normal p st':=λp st' h=>by rw[<-hQ];exact .inl h
 have hend:∀p st',n<=p.1->Q .normal p st':=λp st' h=>by rw[<-hQ];exact .inr (by rw[hel,if_neg (by omega)])
 have hQx:∀p st',p.2=true->Q .ret p st':=λp st' h=>by rw[<-hQ];exact .inl h
 generalize(Ph c).el [] [.ep [.sl .plain nl n cs]]=el at hel;have hpl:au cs=true:=(bE _).2 λd hd=>(hcs d hd).1;simp(maxSteps:=999999) (disch:=first|omega|simp<;>omega|rfl) [fJ,pO,Bs,BN,RF];rw[z9d,z5c];refine⟨.sl .plain nl n cs,[],rfl,?_⟩;simp(maxSteps:=999999) (disch:=first|omega|simp<;>omega|rfl) [fJ,JC];refine Si λQ1 hQ1=> ?_;refine N5 (λp st'=>p.2=false∧p.1<=n∧st'=⟨[(5,.sl .plain nl n cs),(0,oH.lit (Value.func (Fn.yield ln) #[] #[])),(1,.ep [.sl .plain nl n cs])],[(6,i64 n),(7,i64 p.1)],[]⟩) ⟨rfl,Nat.zero_le _,by simp⟩ λp st' ⟨hp,hk,hst⟩ Q2 h2 hx hr=> ?_;obtain⟨i,b⟩:=p;subst hst;simp only at hp hk;subst hp;by_cases h:i<n
 ·have hlt:(i:Int)<(n:Int):=by omega
  have hm:((cs.drop (i*30)).take 30).length=30:=by rw[List.length_take,List.length_drop,hlen];omega
  obtain⟨c1,c2,c3,c4,c5⟩:=hc i h;have hcm:∀d∈(cs.drop (i*30)).take 30,ak d=true∧ah d∧ao d=false:=λd hd=>hcs d (List.mem_of_mem_drop (List.mem_of_mem_take hd));have hcp:au ((cs.drop (i*30)).take 30)=true:=(bE _).2 λd hd=>(hcm d hd).1;have sp:=z3t (a:=i64 0::i64 0::i64 0::i64 0::i64 0::i64 0::i64 0::i64 0::i64 0::i64 0::st []:: .sl .plain none 0 []::(bys (bF 16)++[.sl (.own 24) none 0 [],.sl (.own 1) none 0 []])) rfl hm;have tk:List.take 30 (List.take 30 (List.drop (i*30) cs))=List.take 30 (List.drop (i*30) cs):=by rw[List.take_take,Nat.min_self]
  simp only[HS] at c1 c2 c3 c4 c5 hel;simp(maxSteps:=999999) (disch:=first|omega|simp<;>omega|rfl) [fJ,oG,oF,xf,xy,kT,kF,dT,dF,hlt];simp(maxSteps:=999999) (disch:=first|omega|simp<;>omega|rfl) [fJ,oG,oF,Bw,BE,BC,Bt,BL,hlen,h303,c1,c2,c3,c4,c5,hm,hcp,hel,sp,tk,or_imp,forall_and,and_imp,forall_eq];refine⟨h,by omega,⟨λd hd=>(hcm d hd).2.1,λd hd=>(hcm d hd).2.2⟩,h,?_,?_⟩
  ·simp(maxSteps:=999999) (disch:=first|omega|simp<;>omega|rfl) [fJ,kT,kF];show Q2 .ret (i,true) _;rw[hr,hQ1];exact hQx (i,true) _ rfl
  simp(maxSteps:=999999) (disch:=first|omega|simp<;>omega|rfl) [fJ,kT,kF];exact⟨λa b hb id hid=>(by rcases hb with⟨_,rfl⟩|⟨_,rfl⟩<;>cases hid),h2 (i+1,false) _ ⟨rfl,by show i+1<=n;omega,by simp⟩ rfl (.inl rfl)⟩
 have hlt:¬(i:Int)<(n:Int):=by omega
 simp(maxSteps:=999999) (disch:=first|omega|simp<;>omega|rfl) [fJ,oG,oF,xf,xy,kT,kF,dT,dF,hlt,hx,hQ1];exact hend _ _ (by show n<=i;omega)
mutual
def fgN:oH->oH
 | .sl m _ n cs=> .sl m none n cs
 | .agg cs=> .agg (z1T cs)
 | .tup cs=> .tup (z1T cs)
 | .undef=> .undef
 | .lit x=> .lit x
 | .bp i o=> .bp i o
 | .bv i e o n c=> .bv i e o n c
 | .ep cs=> .ep cs
 | .fn f x y=> .fn f x y
 | .otup e nl n cs r=> .otup e nl n cs r
 | .mp m=> .mp m
 | .pv o e n cs=> .pv o e n cs
 | .oagg m r=> .oagg m r
def z1T:List oH->List oH
 |[]=>[]
 |c::cs=>fgN c::z1T cs
end
theorem Pp{K:Con}{S:Nat->Nat}{w:World}{m:cH}{nl:Option Bool}{n:Nat}{cs:List oH}{v:Value}(h:ap K S w (.sl m nl n cs) v):ap K S w (.sl m none n cs) v:=by
 simp only[ap] at h⊢;rcases h with⟨b,o,cap,h1,h2,h3,_,h5⟩|⟨q,h1,h2,h3,_⟩
 ·exact .inl ⟨b,o,cap,h1,h2,h3,by simp,h5⟩
 exact .inr ⟨q,h1,h2,h3,by simp⟩
mutual
theorem z7k{K:Con}{g:Gh}{w:World}:∀(d:oH) (v:Value) (l:Option Loc),Rep K g w l d v->Rep K g w l (fgN d) v
 | .undef,_,_,h=>by simpa only[fgN] using h
 | .lit _,_,_,h=>by simpa only[fgN] using h
 | .bp _ _,_,_,h=>by simpa only[fgN] using h
 | .bv _ _ _ _ _,_,_,h=>by simpa only[fgN] using h
 | .ep _,_,_,h=>by simpa only[fgN] using h
 | .fn _ _ _,_,_,h=>by simpa only[fgN] using h
 | .otup _ _ _ _ _,_,_,h=>by simpa only[fgN] using h
 | .mp _,_,_,h=>by simpa only[fgN] using h
 | .pv _ _ _ _,_,_,h=>by simpa only[fgN] using h
 | .oagg _ _,_,_,h=>by simpa only[fgN] using h
 | .sl .plain nl n cs,v,l,h=>by simp only[fgN,Rep] at h⊢;exact Pp h
 | .sl .clip nl n cs,v,l,h=>by simp only[fgN,Rep] at h⊢;exact Pp h
 | .sl (.own e) nl n cs,v,l,h=>by simp only[fgN,Rep] at h⊢;exact⟨Pp h.1,h.2⟩
 | .agg cs,v,l,h=>by simp only[fgN,Rep] at h⊢;obtain⟨a,rfl,h⟩:=h;exact⟨a,rfl,PA cs _ h⟩
 | .tup cs,v,l,h=>by simp only[fgN,Rep] at h⊢;obtain⟨a,rfl,h⟩:=h;exact⟨a,rfl,PA cs _ h⟩
theorem PA{K:Con}{g:Gh}{w:World}:∀(cs:List oH) (vs:List Value),an K g w cs vs->an K g w (z1T cs) vs
 |[],_,h=>by simpa only[z1T] using h
 |c::cs,vs,h=>by simp only[z1T,an] at h⊢;obtain⟨x,xs,rfl,h1,h2⟩:=h;exact⟨x,xs,rfl,z7k c x none h1,PA cs xs h2⟩
end
def fgC(c:aW):aW:=⟨c.pre,λds=>fgN (c.post ds)⟩
theorem Y8{K:Cx}{f:Nat}{c:aW}(h:oK K f c):oK K f (fgC c):=by refine⟨h.1,λS w ds vs hg hd hp=>(h.2 S w ds vs hg hd hp).mono ?_⟩;rintro e w' ⟨v,g',h1,h2,h3,h4⟩;exact⟨v,g',h1,h2,z7k _ _ _ h3,h4⟩
set_option maxRecDepth 100000
set_option maxHeartbeats 8000000
def z4r(s:Nat)(q:List (List UInt8))(es:List pm):oH:= .tup [pkA ((s+es.length:Nat):Int) none (sx s q (oO es)),i64 0]
def z4v(s:Nat)(q:List (List UInt8))(es:List pm):oH:=if q.length=oN s then z4r s q es else .tup [pkA 0 none [],i64 1]
def S2:aW:=⟨λds=>∃(s:Nat) (ne:Option Bool) (q:List (List UInt8)) (es:List pm),qm q∧q.length<=1000000∧(q.length=oN s∨1<=es.length)∧Bh es∧es.length<=1000∧s+es.length<=65536∧ds=[pkA (s:Int) none q,qn ne es],
 λds=>z4v (gPn (nth ds 0)).toNat (gPl (nth ds 0)) (Cr (gNn (nth ds 1)) (gCs (nth ds 1)))⟩
theorem CI(n:Nat):oN n<=n:=by
 induction n using Nat.strongRecOn with
 |ind n ih=>
  rw[BX];by_cases h:n=0
  ·subst h;rw[show 0/2=0 from rfl,vk];simp
  have:=ih (n/2) (by omega);omega
theorem z2z{s:Nat}{ne:Option Bool}{q:List (List UInt8)}{es:List pm}(h:qm q)(ho:q.length=oN s)(he:Bh es)(h1:es.length<=1000)(h2:s+es.length<=65536):S2.pre [pkA (s:Int) none q,qn ne es]=True:=eq_true ⟨s,ne,q,es,h,by have:=CI s;omega,.inl ho,he,h1,h2,rfl⟩
theorem Y0{s:Nat}{ne:Option Bool}{q:List (List UInt8)}{es:List pm}(h:qm q)(hl:q.length<=1000000)(he:Bh es)(h0:1<=es.length)(h1:es.length<=1000)(h2:s+es.length<=65536):S2.pre [pkA (s:Int) none q,qn ne es]=True:=eq_true ⟨s,ne,q,es,h,hl,.inr h0,he,h1,h2,rfl⟩
theorem JX{s:Nat}{ne:Option Bool}{q:List (List UInt8)}{es:List pm}(h:qm q)(he:Bh es):S2.post [pkA (s:Int) none q,qn ne es]=z4v s q es:=by show z4v (gPn (pkA (s:Int) none q)).toNat (gPl (pkA (s:Int) none q)) (Cr es.length (pS es))=_;rw[An he,show gPn (pkA (s:Int) none q)=(s:Int) from rfl,show gPl (pkA (s:Int) none q)=gDs (.sl .plain none q.length (bys (dgs q))) from rfl,uv h,Int.toNat_natCast]
theorem Rw{s:Nat}{ne:Option Bool}{q:List (List UInt8)}{es:List pm}(h:qm q)(ho:q.length=oN s)(he:Bh es):S2.post [pkA (s:Int) none q,qn ne es]=z4r s q es:=by rw[JX h he,z4v,if_pos ho]
theorem z6e{s:Nat}{q:List (List UInt8)}{d:List UInt8}(h:qm q)(ho:¬q.length=oN s):(fgC Na).post [.agg [i64 (s:Int),.sl .plain none q.length (bys (dgs q))],.agg (bys d)]= .tup [.agg [i64 0,.sl .plain none 0 []],i64 1]:=by
 have h1:H9 (s:Int) q d=((0,[]),1):=by rw[H9,if_neg];rintro⟨h2,_⟩;simp[okP] at h2;exact ho h2.2
 show fgN (Na.post _)=_;rw[IS h rfl rfl,h1];rfl
theorem Vn{s:Nat}{q:List (List UInt8)}{d:List UInt8}(h:qm q)(ho:q.length=oN s)(hs:s<=65536):(fgC Na).post [.agg [i64 (s:Int),.sl .plain none q.length (bys (dgs q))],.agg (bys d)]= .tup [.agg [i64 ((s+1:Nat):Int),.sl .plain none (xF q d (t1N s)).length (bys (dgs (xF q d (t1N s))))],i64 0]:=by
 have h1:H9 (s:Int) q d=(((s:Int)+1,xF q d (t1N s)),0):=by rw[H9,if_pos ⟨by simp[okP,ho];omega,by omega⟩,Int.toNat_natCast]
 show fgN (Na.post _)=_;rw[IS h rfl rfl,h1];rw[show((s+1:Nat):Int)=(s:Int)+1 by simp];rfl
theorem QW{es:List pm}(h:Bh es){i:Nat}(hi:i<es.length):HS (pS es) i= .agg (qf none none none es[i]):=by rw[HS,yO h hi]
theorem QV{es:List pm}(h:Bh es)(h1:es.length<=1000)(nl:Option Bool):(Ph C7).pre [] [.ep [.sl .plain nl es.length (pS es)]]:=
 ⟨rfl,nl,es.length,pS es,sd h,by omega,λd hd=>by
  obtain⟨x,_,hx⟩:=List.mem_flatMap.1 hd;exact⟨(NR es d hd).1,(NR es d hd).2,(Qz d hx).2⟩,λi hi=>by
  rw[QW h hi];have hs:=h _ (List.getElem_mem hi);rw[D5 hs];exact⟨of_eq_true (QT hs),by simp,rfl,by simp[yOk],by simp⟩,rfl⟩
theorem V1{es:List pm}(h:Bh es)(nl:Option Bool)(i:Nat):(Ph C7).el [] [.ep [.sl .plain nl es.length (pS es)]] i=if hi:i<es.length then some [.agg (bys (bh 8 [tL es[i]]))] else none:=by
 rw[UC];by_cases hi:i<es.length
 ·rw[if_pos hi,dif_pos hi,QW h hi,D5 (h _ (List.getElem_mem hi))]
 rw[if_neg hi,dif_neg hi]
theorem z3ya(E:Env)(h350:E.G 350=TF)(h182:E.G 182=fgC Na)(hI:E.I 372=Ph C7){s:Nat}{ne:Option Bool}{q:List (List UInt8)}{es:List pm}(hq:qm q)(ho:q.length=oN s)(he:Bh es)(h1:es.length<=1000)(h2:s+es.length<=65536):
  [pkA (s:Int) none q,qn ne es].length=pi.n∧awp E pi.body (qH pi.res (S2.post [pkA (s:Int) none q,qn ne es])) (fP pi.wr [pkA (s:Int) none q,qn ne es]):=by
 rw[Rw hq ho he];unfold pkA ur qn;have p1:TF.pre [.sl .plain ne es.length (pS es)]=True:=eq_true ⟨ne,es.length,pS es,sd he,by simp,rfl⟩;have p2:TF.post [.sl .plain ne es.length (pS es)]= .fn 372 [] [.ep [.sl .plain ne es.length (pS es)]]:=rfl;generalize hQf:qH pi.res (z4r s q es)=Qf;simp(maxSteps:=999999) (disch:=first|omega|simp<;>omega|rfl) [fJ,pi,h350,p1,p2];have hel:=V1 he ne;have hpre:=QV he h1 ne;have hdl:(oO es).length=es.length:=by simp[oO]
 refine oI λQ1 hQ1=> ?_;have hA:∀i,qm (sx s q ((oO es).take i)):=λi=>Dg hq;have hAl:∀i,i<=es.length->(sx s q ((oO es).take i)).length=oN (s+i):=λi hi=>by rw[yM _ ho,List.length_take,hdl,Nat.min_eq_left hi]
 refine Hm [] [.ep [.sl .plain ne es.length (pS es)]] (by simp) (by simp) (by rw[hI];rfl) (by rw[hI];exact hpre) (by simp) es.length (λi bx=>i<=es.length∧bx=[(2,some [i64 ((s+i:Nat):Int),.sl .plain none (sx s q ((oO es).take i)).length (bys (dgs (sx s q ((oO es).take i))))]),(4,some [i64 0,.sl .plain none 0 []]),(5,some [i64 0]),(10,none)]) ⟨Nat.zero_le _,by simp[sx]⟩ (λi bx h=>h.1) (λi bx h hn=> ?_) (λi bx xs hi hx=> ?_)
 ·rw[hI,hel] at hn;obtain⟨hi,rfl⟩:=h;split at hn
  ·cases hn
  have hii:i=es.length:=by omega
  subst hii;rw[List.take_of_length_le (by omega)];have hA1:=qL (hA es.length);rw[List.take_of_length_le (by omega)] at hA1;rw[hQ1];simp(maxSteps:=999999) (disch:=first|omega|simp<;>omega|rfl) [fJ,oo,dz,Ft,<-hQf,z4r,pkA,ur,pi,zn,zb]
 rw[hI,hel] at hx;obtain⟨hi,rfl⟩:=hi;split at hx
 ·rename_i hlt;have hx':=(Option.some.inj hx).symm;subst hx';have dl:(bh 8 [tL es[i]]).length=16:=pG _ _;refine⟨rfl,by simp,λV=> ?_⟩;have hA1:=qL (hA i);have ec:((s+i:Nat):Int)=(s:Int)+(i:Int):=by simp
  have ec1:((s+i+1:Nat):Int)=(s:Int)+(i:Int)+1:=by simp
  have pp:(fgC Na).pre [.agg [i64 ((s+i:Nat):Int),.sl .plain none (sx s q ((oO es).take i)).length (bys (dgs (sx s q ((oO es).take i))))],.agg (bys (bh 8 [tL es[i]]))]=True:=L3 (nl:=none) ⟨by omega,by omega⟩ (hA i) (by have:=hAl i hi;have:=CI (s+i);omega) dl rfl rfl;have pq:=Vn (s:=s+i) (d:=bh 8 [tL es[i]]) (hA i) (hAl i hi) (by omega);have hnx:sx s q ((oO es).take (i+1))=xF (sx s q ((oO es).take i)) (bh 8 [tL es[i]]) (t1N (s+i)):=by rw[show(oO es).take (i+1)=(oO es).take i++[bh 8 [tL es[i]]] by rw[List.take_succ_eq_append_getElem (by omega)];simp[oO],Mm,List.length_take,hdl,Nat.min_eq_left hi];rfl
  rw[ec,ec1] at pq;rw[ec] at pp;rw[hnx];generalize sx s q ((oO es).take i)=A at*
  generalize xF A (bh 8 [tL es[i]]) (t1N (s+i))=B at*
  simp(maxSteps:=999999) (disch:=first|omega|simp<;>omega|rfl) [fJ,oo,dz,Cg,B8,dl,oJ,h182,oM dl,pp,pq,kT,kF,zn,zb,Tp,fk];exact⟨by omega,by omega⟩
 cases hx
theorem z4ta(E:Env)(h350:E.G 350=TF)(h182:E.G 182=fgC Na)(hI:E.I 372=Ph C7){s:Nat}{ne:Option Bool}{q:List (List UInt8)}{es:List pm}(hq:qm q)(hql:q.length<=1000000)(ho:¬q.length=oN s)(he:Bh es)(h0:1<=es.length)(h1:es.length<=1000)(h2:s+es.length<=65536):
  [pkA (s:Int) none q,qn ne es].length=pi.n∧awp E pi.body (qH pi.res (.tup [pkA 0 none [],i64 1])) (fP pi.wr [pkA (s:Int) none q,qn ne es]):=by
 unfold pkA ur qn;have p1:TF.pre [.sl .plain ne es.length (pS es)]=True:=eq_true ⟨ne,es.length,pS es,sd he,by simp,rfl⟩;have p2:TF.post [.sl .plain ne es.length (pS es)]= .fn 372 [] [.ep [.sl .plain ne es.length (pS es)]]:=rfl;simp(maxSteps:=999999) (disch:=first|omega|simp<;>omega|rfl) [fJ,pi,h350,p1,p2];have hel:=V1 he ne;have hpre:=QV he h1 ne;refine oI λQ1 hQ1=> ?_;refine Hm [] [.ep [.sl .plain ne es.length (pS es)]] (by simp) (by simp) (by rw[hI];rfl) (by rw[hI];exact hpre) (by simp) es.length (λi bx=>i=0∧bx=[(2,some [i64 (s:Int),.sl .plain none q.length (bys (dgs q))]),(4,some [i64 0,.sl .plain none 0 []]),(5,some [i64 0]),(10,none)]) ⟨rfl,rfl⟩ (λi bx h=>by have:=h.1;omega) (λi bx h hn=> ?_) (λi bx xs hi hx=> ?_)
 ·rw[hI,hel] at hn;obtain⟨rfl,rfl⟩:=h;rw[dif_pos (by omega)] at hn;cases hn
 rw[hI,hel] at hx;obtain⟨rfl,rfl⟩:=hi;rw[dif_pos (by omega)] at hx;have hx':=(Option.some.inj hx).symm;subst hx';have dl:(bh 8 [tL es[0]]).length=16:=pG _ _;refine⟨rfl,by simp,λV=> ?_⟩;have pp:(fgC Na).pre [.agg [i64 (s:Int),.sl .plain none q.length (bys (dgs q))],.agg (bys (bh 8 [tL es[0]]))]=True:=L3 (nl:=none) ⟨by omega,by omega⟩ hq hql dl rfl rfl;have pq:=z6e (s:=s) (d:=bh 8 [tL es[0]]) hq ho;simp(maxSteps:=999999) (disch:=first|omega|simp<;>omega|rfl) [fJ,oo,dz,Cg,B8,dl,oJ,h182,oM dl,pp,pq,kT,kF,zn,zb,Tp,fk,hQ1]
theorem z6ba(E:Env)(h350:E.G 350=TF)(h182:E.G 182=fgC Na)(hI:E.I 372=Ph C7):∀ds,S2.pre ds->ds.length=pi.n∧awp E pi.body (qH pi.res (S2.post ds)) (fP pi.wr ds):=by
 rintro _ ⟨s,ne,q,es,hq,hql,ho,he,h1,h2,rfl⟩;by_cases hoo:q.length=oN s
 ·exact z3ya E h350 h182 hI hq hoo he h1 h2
 rw[JX hq he,z4v,if_neg hoo];exact z4ta E h350 h182 hI hq hql hoo he (ho.resolve_left hoo) h1 h2
def NF(l:lf)(n:Int):(Int×List (List UInt8))×Nat:=if n<l.size∨(l.len:Int)<n then((0,[]),11) else((n,sx l.size l.roots (oO (l.ents.take (n.toNat-l.size)))),0)
def z0m:aW:=⟨λds=>∃(l:lf) (n:Int),l.ok∧aO n∧ds=[Iu none none l,i64 n],λds=> .tup [pkA (NF (QU (nth ds 0)) (asI (nth ds 1))).1.1 none (NF (QU (nth ds 0)) (asI (nth ds 1))).1.2,i64 ((NF (QU (nth ds 0)) (asI (nth ds 1))).2:Int)]⟩
theorem z1v{l:lf}{n:Int}(h:l.ok)(hn:aO n):z0m.pre [Iu none none l,i64 n]=True:=eq_true ⟨l,n,h,hn,rfl⟩
theorem Su{l:lf}(n:Int)(h:l.ok):z0m.post [Iu none none l,i64 n]= .tup [pkA (NF l n).1.1 none (NF l n).1.2,i64 ((NF l n).2:Int)]:=by show oH.tup [pkA (NF (QU (Iu none none l)) n).1.1 none (NF (QU (Iu none none l)) n).1.2,i64 ((NF (QU (Iu none none l)) n).2:Int)]=_;rw[T7 h]
theorem z65(E:Env)(h349:E.G 349=Ty)(h180:E.G 180=Oz)(h354:E.G 354=S2):∀ds,z0m.pre ds->ds.length=ub.n∧awp E ub.body (qH ub.res (z0m.post ds)) (fP ub.wr ds):=by
 rintro _ ⟨l,n,h,hn,rfl⟩;rw[Su n h];have hs:=h.s;have p3:Ty.pre [Iu none none l]=True:=Qh h;have p4:Ty.post [Iu none none l]=i64 (l.len:Int):=IC h;have hll:l.len=l.size+l.ents.length:=rfl;simp only[Iu,ur,qn] at p3 p4⊢;by_cases c1:n<l.size
 ·have hr:NF l n=((0,[]),11):=by rw[NF,if_pos (.inl c1)]
  have d1:decide (n<(l.size:Int))=true:=decide_eq_true c1;rw[hr];simp(maxSteps:=999999) (disch:=first|omega|simp<;>omega|rfl) [fJ,ub,pkA,ur,d1,kT,kF,zn,zb]
 have d1:decide (n<(l.size:Int))=false:=decide_eq_false c1;by_cases c2:(l.len:Int)<n
 ·have hr:NF l n=((0,[]),11):=by rw[NF,if_pos (.inr c2)]
  have d2:decide ((l.len:Int)<n)=true:=decide_eq_true c2;rw[hr];simp(maxSteps:=999999) (disch:=first|omega|simp<;>omega|rfl) [fJ,ub,pkA,ur,d1,d2,h349,p3,p4,kT,kF,zn,zb]
 have hr:NF l n=((n,sx l.size l.roots (oO (l.ents.take (n.toNat-l.size)))),0):=by rw[NF,if_neg (by omega)]
 have d2:decide ((l.len:Int)<n)=false:=decide_eq_false c2;have hlen:=sd h.e;have htk:=K2 h.e (n.toNat-l.size);have hsm:Bh (l.ents.take (n.toNat-l.size)):=λx hx=>h.e x (List.mem_of_mem_take hx);have hle:(l.ents.take (n.toNat-l.size)).length=n.toNat-l.size:=by rw[List.length_take];omega
 have q1:S2.pre [pkA (l.size:Int) none l.roots,qn none (l.ents.take (n.toNat-l.size))]=True:=z2z h.r h.o hsm (by have:=h.n;omega) (by omega);have q2:S2.post [pkA (l.size:Int) none l.roots,qn none (l.ents.take (n.toNat-l.size))]=z4r l.size l.roots (l.ents.take (n.toNat-l.size)):=Rw h.r h.o hsm;have en:((l.size+(n.toNat-l.size):Nat):Int)=n:=by omega
 rw[z4r,hle,en] at q2;simp only[pkA,ur,qn,hle] at q1 q2;have i1:(n-(l.size:Int)).toNat=n.toNat-l.size:=by omega
 have k1:Oz.pre [.sl .plain none l.roots.length (bys (dgs l.roots))]=True:=eq_true ⟨none,l.roots,h.r,by have:=h.o;have:=CI l.size;omega,rfl⟩;have k2:Oz.post [.sl .plain none l.roots.length (bys (dgs l.roots))]= .sl (.own 16) none l.roots.length (bys (dgs l.roots)):=by show Pr none (gDs (.sl .plain none l.roots.length (bys (dgs l.roots))))=_;rw[uv h.r];rfl
 rw[hr];simp(maxSteps:=999999) (disch:=first|omega|simp<;>omega|rfl) [fJ,ub,Fu,pkA,ur,d1,d2,h349,p3,p4,kT,kF,zn,zb,h180,k1,k2,h354,i1,hlen,htk,q1,q2];exact⟨by omega,by omega⟩
def Kr(l:lf):List UInt8:=(Nr l.len (sx l.size l.roots (oO l.ents))).1
def PP:aW:=⟨λds=>∃l:lf,l.ok∧ds=[Iu none none l],λds=> .agg (bys (Kr (QU (nth ds 0))))⟩
theorem Zp{l:lf}(h:l.ok):PP.pre [Iu none none l]=True:=eq_true ⟨l,h,rfl⟩
theorem NG{l:lf}(h:l.ok):PP.post [Iu none none l]= .agg (bys (Kr l)):=by show oH.agg (bys (Kr (QU (Iu none none l))))=_;rw[T7 h]
theorem z9E(E:Env)(h349:E.G 349=Ty)(h348:E.G 348=z0m)(h185:E.G 185=Mf):∀ds,PP.pre ds->ds.length=yC.n∧awp E yC.body (qH yC.res (PP.post ds)) (fP yC.wr ds):=by
 rintro _ ⟨l,h,rfl⟩;rw[NG h];have hs:=h.s;have hll:l.len=l.size+l.ents.length:=rfl;have p3:Ty.pre [Iu none none l]=True:=Qh h;have p4:Ty.post [Iu none none l]=i64 (l.len:Int):=IC h;have q1:z0m.pre [Iu none none l,i64 (l.len:Int)]=True:=z1v h ⟨by omega,by omega⟩;have q2:=Su (l:=l) (l.len:Int) h;have hp:NF l (l.len:Int)=(((l.len:Int),sx l.size l.roots (oO l.ents)),0):=by rw[NF,if_neg (by omega),Int.toNat_natCast,List.take_of_length_le (by omega)]
 rw[hp] at q2;have hA:qm (sx l.size l.roots (oO l.ents)):=Dg h.r;have hAl:(sx l.size l.roots (oO l.ents)).length=oN l.len:=by rw[yM _ h.o];simp[oO,lf.len]
 have t1:Mf.pre [.agg [i64 (l.len:Int),.sl .plain none (sx l.size l.roots (oO l.ents)).length (bys (dgs (sx l.size l.roots (oO l.ents))))]]=True:=LX ⟨by omega,by omega⟩ hA (by have:=CI l.len;omega) rfl rfl;have t2:=Ef (n:=(l.len:Int)) (m:= .plain) (nl:=none) hA rfl rfl;have ho:okP (l.len:Int) (sx l.size l.roots (oO l.ents)).length=true:=by simp[okP,hAl];omega
 have tl:(Nr (l.len:Int) (sx l.size l.roots (oO l.ents))).1.length=16:=by
  rw[Nr,if_pos ho];show(if(l.len:Int)=0 then root [] else _).length=16;split
  ·exact sH []
  exact vC hA (by rw[hAl];exact Fx (by omega)) _
 simp only[Iu,ur,qn,pkA] at p3 p4 q1 q2⊢;unfold Kr;generalize Nr (l.len:Int) (sx l.size l.roots (oO l.ents))=T at*
 generalize sx l.size l.roots (oO l.ents)=A at*
 simp(maxSteps:=999999) (disch:=first|omega|simp<;>omega|rfl) [fJ,yC,h349,p3,p4,h348,q1,q2,h185,t1,t2,tl,zn,zb,oJ,oM tl]
theorem N6(l:List pm):(oO l).length=l.length:=List.length_map _
theorem IB{n:Int}{q:List (List UInt8)}(h0:1<=n)(h1:n<=4294967296)(hq:q.length=oN n.toNat):Nr n q=(Fa q,0):=by
 have ho:okP n q.length=true:=by simp[okP,hq];omega
 rw[Nr,if_pos ho,if_neg (by omega)];rfl
theorem Ug{l:lf}(h:l.ok):(sx l.size l.roots (oO l.ents)).length=oN l.len:=by rw[yM _ h.o,N6];rfl
theorem z6G{l:lf}(h:l.ok)(h1:1<=l.len):Kr l=Fa (sx l.size l.roots (oO l.ents)):=by have hs:=h.s;have hll:l.len=l.size+l.ents.length:=rfl;rw[Kr,IB (by omega) (by omega) (by rw[Ug h,Int.toNat_natCast])]
theorem z0Y{l:lf}(h:l.ok):(Kr l).length=16:=by
 have hs:=h.s;have hll:l.len=l.size+l.ents.length:=rfl;have hl:=Ug h;by_cases h1:1<=l.len
 ·rw[z6G h h1];exact vC (Dg h.r) (by rw[hl];exact Fx h1) _
 have h0:l.len=0:=by omega
 rw[Kr,Nr,if_pos (by simp[okP,hl];omega),if_pos (by rw[h0];rfl)];exact sH []
structure Io where
 from':Int
 ents:List pm
 prs:List (List (List UInt8))
def Hv(l:List (List (List UInt8))):List oH:=l.map (ur none)
def EB(np:Option Bool)(p:Io):oH:= .agg [i64 p.from',qn none p.ents,.sl .plain np p.prs.length (Hv p.prs)]
end Go.Abs