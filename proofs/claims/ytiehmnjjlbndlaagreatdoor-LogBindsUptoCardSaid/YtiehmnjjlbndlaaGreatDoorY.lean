/- Lemmas. -/
import Derived.Test.YtiehmnjjlbndlaaGreatDoorX
import Derived.Test.YtiehmnjjlbndlaaGreatDoorV
set_option linter.all false
namespace Go.Abs
set_option maxRecDepth 100000
structure inL (s:Int) (r:List (List UInt8)) (l:List pm) (x:pm):Prop where
 hs:inI s
 hr:qm r
 hrl:r.length<=1000000
 hl:okL l
 hw:E5 l<=1000000000
 hx:x.ok
 hv:wE x<=1000000000
theorem inL.one{s:Int}{r:List (List UInt8)}{l:List pm}{x:pm}(h:inL s r l x):okL [x]∧E5 [x]<=1000000000:=⟨λy hy=>by rw[List.mem_singleton.1 hy];exact h.hx,by have:=h.hv;simp[E5];omega⟩
set_option maxHeartbeats 8000000
def Fb(l:List (List (List UInt8))):Nat:=l.length+(l.map List.length).sum
def z6O(v:oH):Nat:=match v with| .agg [_,_,.sl _ _ n cs]=>n+(cs.map bc).sum|_=>0
theorem W9(np:Option Bool)(p:Io):z6O (EB np p)=Fb p.prs:=by show p.prs.length+((Hv p.prs).map bc).sum=_;rw[Hv,List.map_map];rfl
def QD:aW:=⟨λds=>∃(np:Option Bool) (p:Io),Fb p.prs<=1000000000∧ds=[EB np p],λds=>i64 (z6O (nth ds 0):Int)⟩
theorem z4e{np:Option Bool}{p:Io}(h:Fb p.prs<=1000000000):QD.pre [EB np p]=True:=eq_true ⟨np,p,h,rfl⟩
theorem O1(np:Option Bool)(p:Io):QD.post [EB np p]=i64 (Fb p.prs:Int):=by show i64 (z6O (EB np p):Int)=_;rw[W9]
theorem z8Q(E:Env):∀ds,QD.pre ds->ds.length=pR.n∧awp E pR.body (qH pR.res (QD.post ds)) (fP pR.wr ds):=by
 rintro _ ⟨np,p,h,rfl⟩;rw[O1];obtain⟨fr,es,prs⟩:=p;simp only at h⊢;unfold EB qn;simp only;have hpl:(Hv prs).length=prs.length:=List.length_map _;generalize hQf:qH pR.res (i64 (Fb prs:Int))=Qf;simp(maxSteps:=999999) (disch:=first|omega|simp<;>omega|rfl) [fJ,pR,kT,kF];refine oI λQ0 hQ0=> ?_;have hsum:∀i,prs.length+((prs.take i).map List.length).sum<=Fb prs:=λi=>by
  have e:prs.map List.length=(prs.take i).map List.length++(prs.drop i).map List.length:=by rw[<-List.map_append,List.take_append_drop]
  rw[Fb,e,List.sum_append];omega
 obtain⟨Z,hZ⟩:∃Z:oH,Z= .agg [i64 fr,.sl .plain none es.length (pS es),.sl .plain np prs.length (Hv prs)]:=⟨_,rfl⟩;rw[<-hZ];refine dH (λi:Nat=>⟨[(0,Z)],[(3,i64 (prs.length+((prs.take i).map List.length).sum:Nat)),(10,.sl .plain np prs.length (Hv prs)),(11,i64 prs.length),(12,i64 i)],[(1,some [i64 fr,.sl .plain none es.length (pS es),.sl .plain np prs.length (Hv prs)])]⟩) (λi=>prs.length-i) (λi=>i<=prs.length) 0 (by simp) (Nat.zero_le _) λi hi=> ?_;refine oI λQ1 hQ1=> ?_;have hb:=hsum i;by_cases c:i<prs.length
 ·have hc:(i:Int)<prs.length:=by omega
  have hat:=z1ja c;have hb1:=hsum (i+1);have e1:((prs.take (i+1)).map List.length).sum=((prs.take i).map List.length).sum+prs[i].length:=by rw[<-List.take_append_getElem c,List.map_append,List.sum_append];simp
  rw[e1] at hb1;generalize((prs.take i).map List.length).sum=S at*
  generalize prs[i]=q at*
  simp(maxSteps:=999999) (disch:=first|omega|simp<;>omega|rfl) [fJ,tn,wn,kT,kF,dT,dF,hc,hat,hpl];refine⟨by omega,?_⟩;rw[hQ1];refine⟨i+1,by omega,by omega,?_⟩;have e2:((prs.length+(S+q.length):Nat):Int)=(prs.length:Int)+S+q.length:=by omega
  rw[e1,e2];rfl
 obtain rfl:i=prs.length:=by omega
 rw[List.take_length] at hb⊢;have e:((Fb prs:Nat):Int)=((prs.length+(prs.map List.length).sum:Nat):Int):=rfl;rw[e] at hQf;generalize(prs.map List.length).sum=S at*
 simp(maxSteps:=999999) (disch:=first|omega|simp<;>omega|rfl) [fJ,tn,wh,kT,kF,dT,dF,hQ1,hQ0,<-hQf,pR];skip
theorem F2{x:pm}(hx:x.small):(tL x).length<=2200000000:=by have h1:=J0 hx;have h2:=E4 hx.1.2.2.2.2.2.2.1;have h3:=Aq hx.1.2.2.2.2.2.2.2 (by have:=hx.2.2.2;omega);have h4:=hx.2.2.1;have h5:=hx.2.2.2;rw[NM,List.length_append,List.length_append];omega
def Qx(l:List pm):List (List UInt8):=l.map λx=>mY 8 [tL x]
theorem z6ea(E:Env)(h397:E.M 397=Fj){l:List pm}{X2 X3 X5:List oH}{k n fr:Nat}{A0 A1:oH}{s:List (List UInt8)×Bool}{Q1:aB->ASt->Prop}
  (hl:Bh l) (hn:l.length<=1000) (hk:k<l.length) (hs:s.1.length<=1000000) (r2:pT X2=[]) (r3:pT X3=[]) (r5:pT X5=[])
  (hQ:Q1 .normal ⟨[(0,A0),(1,A1)],[(3,.bp 3 0),(6,i64 n),(7,i64 fr),(8,.bp 106 0),(9,.sl (.own 16) none (k+1) (bys (dgs (oO (l.take (k+1)))))),(108,.sl .plain none l.length (pS l)),(109,i64 l.length),(110,i64 (k+1:Nat))],[(2,some X2),(3,some X3),(5,some X5),(106,some (hA (DG s (mY 8 [tL l[k]]))))]⟩):
  awp E ro Q1 ⟨[(0,A0),(1,A1)],[(3,.bp 3 0),(6,i64 n),(7,i64 fr),(8,.bp 106 0),(9,.sl (.own 16) none k (bys (dgs (oO (l.take k))))),(108,.sl .plain none l.length (pS l)),(109,i64 l.length),(110,i64 k)],[(2,some X2),(3,some X3),(5,some X5),(106,some (hA s))]⟩:=by
 have sa:=hl _ (List.getElem_mem hk);have ba:=F2 sa;have xa:=yO hl hk;have la:=Bq sa;have ea:=sd hl;have l1:30<=l.length*30-k*30:=by omega
 have l2:k*30<=l.length*30:=by omega
 have hc:(k:Int)<l.length:=by omega
 have et:l.take (k+1)=l.take k++[l[k]]:=by rw[List.take_append_getElem]
 have ed:dgs (oO (l.take (k+1)))=dgs (oO (l.take k))++bh 8 [tL l[k]]:=by rw[et,oO,List.map_append,Ct];simp[oO,dgs]
 have ln:(dgs (oO (l.take k))).length=k*16:=by rw[qL (Mv _),oO,List.length_map,List.length_take];congr 1;omega
 rw[ed] at hQ;generalize l[k]=x at*
 have hp1:=RM (s:=s) (x:=x) (by omega) sa (by omega);have hq1:=Kf (.ep (hA s)) sa;have hx1:=λj=>MP s sa j;have hd16:(bh 8 [tL x]).length=16:=pG _ _;rw[show cT (mY 8 [tL x])=bh 8 [tL x] from rfl] at hq1;have tk:=oM hd16;have f1:∀c∈qf none none none x,ah c:=λc hc=>(w7 none none none x c hc).2;have f2:∀c∈qf none none none x,ao c=false:=by simp[qf,yP,or_imp,forall_and]
 have f3:au (qf none none none x)=true:=(bE _).2 λc hc=>(w7 none none none x c hc).1;generalize bh 8 [tL x]=d at*
 generalize DG s (mY 8 [tL x])=s1 at*
 generalize qf none none none x=Y at*
 have tX:Y.take 30=Y:=List.take_of_length_le (by omega);simp(maxSteps:=999999) (disch:=first|omega|simp<;>omega|rfl) [fJ,oG,oF,ro,vh,kT,kF,dT,dF,hc,xa,la,l1,l2,ea,h397,hp1,hq1,hx1,hd16,tk,oJ,tX,f3,ln,r2,r3,r5];refine⟨⟨f1,f2⟩,⟨by omega,by omega⟩,?_⟩;exact hQ
theorem z5x(E:Env)(h391:E.G 391=Qa)(h397:E.M 397=Fj)(h398:E.M 398=K6)(h399:E.M 399=QN){l:List pm}{pc:List oH}{p:Io}{fr:Nat}{P0 P1:List (List UInt8)}{A0 A1 A2:oH}{rt:List UInt8}(hA2:aF A2=[])
  (hl:Bh l) (hn:l.length<=1000) (hp:pc=[i64 p.from',qn none p.ents,.sl .plain none p.prs.length (Hv p.prs)]) (hf:p.from'=fr) (hprs:p.prs=[P0,P1]) (ho:z9L fr l.length p.ents P0 P1) (hk:fr+p.ents.length<=l.length) (hcl:(qS ([],false) (TE l p.ents fr (fr+p.ents.length) P0 P1)).2=true):
  awp E sL (qH [gR.t 4] (bo true)) ⟨[(0,A0),(1,A1)],[(2,.bp 2 0),(3,.bp 3 0),(6,i64 l.length),(7,i64 (fr+p.ents.length:Nat))],[(2,some [i64 0,A2,.sl .plain none l.length (pS l)]),(3,some pc),(5,some (bys rt))]⟩:=by
 unfold sL;have hA0:hA ([],false)=[.mp [],bo false]:=rfl;have dl:(oO l).length=l.length:=List.length_map _;have d16:=Mv l;rw[qg];refine oI λQ0 hQ0=> ?_;simp(maxSteps:=999999) (disch:=first|omega|simp<;>omega|rfl) [fJ,oG,oF,kT,kF,dT,dF];rw[hQ0,<-hA0];show awp E _ _ _;rw[qg];refine oI λQ1 hQ1=> ?_;simp(maxSteps:=999999) (disch:=first|omega|simp<;>omega|rfl) [fJ,oG,oF,kT,kF,dT,dF];rw[hQ1];show awp E _ _ _;rw[qg];refine oI λQ2 hQ2=> ?_;simp(maxSteps:=999999) (disch:=first|omega|simp<;>omega|rfl) [fJ,oG,oF,kT,kF,dT,dF];obtain⟨f,es,prs⟩:=p;simp only at hp hf hprs ho hk hcl⊢;subst hf hprs;refine dH (λk:Nat=>⟨[(0,A0),(1,A1)],[(3,.bp 3 0),(6,i64 l.length),(7,i64 (fr+es.length:Nat)),(8,.bp 106 0),(9,.sl (.own 16) none k (bys (dgs (oO (l.take k))))),(108,.sl .plain none l.length (pS l)),(109,i64 l.length),(110,i64 k)],[(2,some [i64 0,A2,.sl .plain none l.length (pS l)]),(3,some pc),(5,some (bys rt)),(106,some (hA (qS ([],false) (Qx (l.take k)))))]⟩) (λk=>l.length-k) (λk=>k<=l.length) 0 (by simp[Qx,Dn,oO,dgs]) (Nat.zero_le _) λk hkl=> ?_;refine oI λQ3 hQ3=> ?_;have hpl:=Ab ([],false) (Qx (l.take k));have hil:(Qx (l.take k)).length=k:=by rw[Qx,List.length_map,List.length_take];omega
 rw[hil,List.length_nil,Nat.zero_add] at hpl;by_cases c:k<l.length
 ·refine z6ea E h397 hl hn c (by omega) (by simp[hA2]) (by rw[hp];simp[qn]) (by simp) ?_;rw[hQ3];refine⟨k+1,by omega,by omega,?_⟩;have et:l.take (k+1)=l.take k++[l[k]]:=by rw[List.take_append_getElem]
  have e:qS ([],false) (Qx (l.take (k+1)))=DG (qS ([],false) (Qx (l.take k))) (mY 8 [tL l[k]]):=by rw[et,Qx,List.map_append,List.map_singleton,EC];rfl
  rw[e]
 obtain rfl:k=l.length:=by omega
 rw[List.take_length] at hpl hil⊢;simp(maxSteps:=999999) (disch:=first|omega|simp<;>omega|rfl) [fJ,oG,oF,ro,kT,kF,dT,dF];rw[hQ3];show Q2 .normal _;rw[hQ2];show awp E sM _ _;have hpa:=Ag;have ddl:=qL d16;rw[dl] at ddl;have dt:=xt d16 (fr+es.length);have t16:=sD d16 (fr+es.length);have tl:((oO l).take (fr+es.length)).length=fr+es.length:=by rw[List.length_take];omega
 have z1:=GB (oO l);have z2:=GB ((oO l).take (fr+es.length));have s0:Qa.pre []=True:=eq_true rfl;have s1:Qa.post []=bo true:=rfl;have y1:=Ab (qS ([],false) (Qx l)) (tK (oO l));have y2:=Ab (qS (qS ([],false) (Qx l)) (tK (oO l))) (tK ((oO l).take (fr+es.length)));have hp1:=MH (s:=qS ([],false) (Qx l)) (nl:=none) d16 (by omega) (by omega) dl.symm rfl;have hx1:=JQ (s:=qS ([],false) (Qx l)) (md:= .plain) (nl:=none) d16 dl.symm rfl;have hq1:=Gm (v:= .ep (hA (qS ([],false) (Qx l)))) (md:= .plain) (nl:=none) d16 dl.symm rfl;rw[TE,Ag,Ag,Ag] at hcl;rw[show l.map (λx=>mY 8 [tL x])=Qx l from rfl] at hcl;generalize qS ([],false) (Qx l)=s2 at*
 have hp2:=MH (s:=qS s2 (tK (oO l))) (nl:=none) t16 (by omega) (by omega) tl.symm rfl;have hx2:=JQ (s:=qS s2 (tK (oO l))) (md:= .plain) (nl:=none) t16 tl.symm rfl;have hq2:=Gm (v:= .ep (hA (qS s2 (tK (oO l))))) (md:= .plain) (nl:=none) t16 tl.symm rfl;generalize qS s2 (tK (oO l))=s3 at*
 have hp3:=z9J (s:=qS s3 (tK ((oO l).take (fr+es.length)))) (np:=none) ho (by omega);have hx3:=U6 (s:=qS s3 (tK ((oO l).take (fr+es.length)))) (np:=none) ho;generalize qS s3 (tK ((oO l).take (fr+es.length)))=s4 at*
 have r1:=sH (oO l);have r2:=sH ((oO l).take (fr+es.length));have hh:∀s:List (List UInt8)×Bool,hA s=[.mp (G9 s.1),bo s.2]:=λ_=>rfl;generalize qS s4 (piI fr l.length es P0 P1)=s5 at*
 unfold EB at hp3 hx3;rw[<-hp] at hp3 hx3;have i0:((fr:Int)+(es.length:Int)).toNat=fr+es.length:=by omega
 have lpc:pc.length=3:=by rw[hp];rfl
 have tpc:pc.take 3=pc:=List.take_of_length_le (by omega);have ppc:au pc=true:=by rw[hp];simp[qn]
 simp(maxSteps:=999999) (disch:=first|omega|simp<;>omega|rfl) [fJ,oG,oF,sM,kT,kF,dT,dF,h398,hp1,hq1,hx1,i0,dt,hp2,hq2,hx2,h399,hp3,hx3,h391,s0,s1,lpc,tpc,ppc,oR];refine⟨⟨by omega,by omega⟩,Nat.le_refl 2,?_⟩;rw[hh];show dem (dem (dem (bo s5.2)))=_;rw[hcl];rfl
structure inBd (s:Int) (r:List (List UInt8)) (l:List pm) (p:Io):Prop where
 hs:inI s
 hr:qm r
 hrl:r.length<=1000000
 hl:okL l
 hw:E5 l<=1000000000
 pf:aO p.from'
 pl:okL p.ents
 pw:E5 p.ents<=1000000000
 pr:∀q∈p.prs,qm q
 ps:Fb p.prs<=1000000000
def UV:aW:=⟨λds=>∃(s:Int) (r:List (List UInt8)) (l:List pm) (p:Io),inBd s r l p∧ds=[Xb s none none r l,EB none p],λ_=>bo true⟩
theorem z0I{l:List (List (List UInt8))}{q:List (List UInt8)}(h:q∈l):q.length<=(l.map List.length).sum:=by
 induction l with
 |nil=>cases h
 |cons a l ih=>
  rw[List.map_cons,List.sum_cons];rcases List.mem_cons.1 h with rfl|h
  ·omega
  have:=ih h;omega
theorem z7K(E:Env)(h391:E.G 391=Qa)(h397:E.M 397=Fj)(h398:E.M 398=K6)(h399:E.M 399=QN)(h376:E.G 376=z5q)(h387:E.G 387=OX){l:List pm}{p:Io}{fr:Nat}{P0 P1:List (List UInt8)}{A0 A1 A2:oH}(hA2:aF A2=[])
  (hl:Bh l) (hn:l.length<=1000) (hR:(Kr ⟨0,[],l⟩).length=16) (h:KD p) (ha:z57 (Kr ⟨0,[],l⟩) l.length p fr P0 P1):
  awp E sN (qH [gR.t 4] (bo true)) ⟨[(0,A0),(1,A1)],[(2,.bp 2 0),(3,.bp 3 0),(5,.bp 5 0),(6,i64 l.length)],[(2,some [i64 0,A2,.sl .plain none l.length (pS l)]),(3,some [i64 p.from',qn none p.ents,.sl .plain none p.prs.length (Hv p.prs)]),(5,some (bys (Kr ⟨0,[],l⟩)))]⟩:=by
 have hcl:=z9g hl (λx hx=>by
  rcases List.mem_append.1 hx with hx|hx
  ·have:=F2 (hl x hx);omega
  have:=F2 (h.e x hx);omega) h ha
 have hpi:z9L fr l.length p.ents P0 P1:=⟨(h.r P0 (by rw[ha.r];simp)).1,(h.r P1 (by rw[ha.r];simp)).1,h.e,λx hx=>by have:=F2 (h.e x hx);omega,ha.n1,h.n,ha.o,(h.r P1 (by rw[ha.r];simp)).2,ha.s1,ha.s2⟩;have r1:=Zy (np:=none) hR h ha;have hE:=z5x E h391 h397 h398 h399 (l:=l) (p:=p) (A0:=A0) (A1:=A1) (rt:=Kr ⟨0,[],l⟩) hA2 hl hn rfl ha.f ha.r hpi ha.s1;have n1:=ha.n1;have s1:=ha.s1;have s2:=ha.s2;have hf:=ha.f;have hr:=ha.r;have pe:=h.e;have pn:=h.n;obtain⟨f,es,prs⟩:=p;simp only at n1 s1 hf hr pe pn hcl hE⊢;subst hf hr;have hsx:Bh ((l.drop fr).take es.length):=λx hx=>hl x (List.mem_of_mem_drop (List.mem_of_mem_take hx));have hlx:((l.drop fr).take es.length).length=es.length:=by rw[List.length_take,List.length_drop];omega
 have q1:=z2C (nl:=none) (nl':=none) pe hsx pn (by omega);have q2:=R3 (nl:=none) (nl':=none) pe hsx;simp only[qn,hlx] at q1 q2;have e1:=S8 hl fr;have e2:=K2 (l:=l.drop fr) (λx hx=>hl x (List.mem_of_mem_drop hx)) es.length;have ea:=sd hl;have w0:Qa.pre []=True:=eq_true rfl;have w1:Qa.post []=bo true:=rfl;have b0:((es.length:Int)==0)=false:=beq_false_of_ne (by omega);have i0:((fr:Int)+(es.length:Int)-fr).toNat=es.length:=by omega
 have i1:((fr:Int)+(es.length:Int)).toNat=fr+es.length:=by omega
 have tk:=oM hR;unfold EB at r1;generalize Kr ⟨0,[],l⟩=rt at*
 unfold qn at r1 hE⊢;simp only[Hv,ur,List.map_cons,List.map_nil] at r1 hE⊢;rw[show [P0,P1].length=2 from rfl] at r1 hE⊢;generalize hX:(l.drop fr).take es.length=X at*
 generalize hSam:DX es X=sam at*
 unfold sN;rw[qg];refine oI λQ0 hQ0=> ?_;simp(maxSteps:=999999) (disch:=first|omega|simp<;>omega|rfl) [fJ,kT,kF,dT,dF];rw[hQ0];show awp E _ _ _;cases sam with
 |true=>simp(maxSteps:=999999) (disch:=first|omega|simp<;>omega|rfl) [fJ,kT,kF,dT,dF,b0,sK,i0,i1,ea,e1,e2,h376,q1,q2,h391,w0,w1,oR];exact⟨⟨by omega,by omega⟩,by omega⟩
 |false=>simp(maxSteps:=999999) (disch:=first|omega|simp<;>omega|rfl) [fJ,kT,kF,dT,dF,b0,sK,ve,i0,i1,ea,e1,e2,h376,q1,q2,h387,r1,hR,tk,oR];exact⟨⟨⟨by omega,by omega⟩,by omega⟩,hE (hcl rfl)⟩
theorem XR(E:Env)(h391:E.G 391=Qa)(h389:E.G 389=Qr)(h390:E.G 390=Qp)(h395:E.G 395=QD)(h355:E.G 355=PP)(h349:E.G 349=Ty)(h363:E.G 363=QC)(h397:E.M 397=Fj)(h398:E.M 398=K6)(h399:E.M 399=QN)(h376:E.G 376=z5q)(h387:E.G 387=OX):∀ds,UV.pre ds->ds.length=oR.n∧awp E oR.body (qH oR.res (UV.post ds)) (fP oR.wr ds):=by
 rintro _ ⟨s,r,l,p,h,rfl⟩;show _∧awp E _ (qH _ (bo true)) _;have fp:=Rc (nl:=none) h.hl h.hw;have fq:=I1 (nl:=none) h.hl;have gp:=Rc (nl:=none) h.pl h.pw;have gq:=I1 (nl:=none) h.pl;have np:=z4e (np:=none) h.ps;have nq:=O1 none p;have s0:Qa.pre []=True:=eq_true rfl;have s1:Qa.post []=bo true:=rfl;unfold EB qn at np nq;unfold Xb ur EB;unfold qn at fp fq gp gq⊢;cases b1:ZA l with
 |false=>simp(maxSteps:=999999) (disch:=first|omega|simp<;>omega|rfl) [fJ,oG,oF,oR,kT,kF,dT,dF,h389,fp,fq,b1,h391,s0,s1];skip
 |true=>
  obtain⟨hsm,hln⟩:=Lb h.hl b1;cases b2:ZA p.ents with
  |false=>simp(maxSteps:=999999) (disch:=first|omega|simp<;>omega|rfl) [fJ,oG,oF,oR,kT,kF,dT,dF,h389,fp,fq,gp,gq,b1,b2,h391,s0,s1];skip
  |true=>
   obtain⟨hpm,hpn⟩:=Lb h.pl b2;by_cases c3:200<Fb p.prs
   ·have c3':(200:Int)<Fb p.prs:=by omega
    simp(maxSteps:=999999) (disch:=first|omega|simp<;>omega|rfl) [fJ,oG,oF,oR,kT,kF,dT,dF,h389,fp,fq,gp,gq,b1,b2,h395,np,nq,c3',h391,s0,s1];skip
   have c3':¬(200:Int)<Fb p.prs:=by omega
   have hck:KD p:=⟨h.pf,hpm,by omega,λq hq=>⟨h.pr q hq,by have:=z0I hq;unfold Fb at c3;omega⟩,by unfold Fb at c3;omega⟩;have hraw:z4V s r l:=⟨h.hs,h.hr,h.hrl,hsm,hln⟩;have vp:=ZB hraw;have vq:=OY hraw;unfold Xb ur qn at vp vq;cases b4:P9 s r.length l with
   |false=>simp(maxSteps:=999999) (disch:=first|omega|simp<;>omega|rfl) [fJ,oG,oF,oR,kT,kF,dT,dF,h389,fp,fq,gp,gq,b1,b2,h395,np,nq,c3',h390,vp,vq,b4,h391,s0,s1];skip
   |true=>
    obtain⟨hs0,hL,hs6⟩:=z0N hraw b4;by_cases c5:0<s
    ·simp(maxSteps:=999999) (disch:=first|omega|simp<;>omega|rfl) [fJ,oG,oF,oR,kT,kF,dT,dF,h389,fp,fq,gp,gq,b1,b2,h395,np,nq,c3',h390,vp,vq,b4,c5,h391,s0,s1];skip
    obtain rfl:s=0:=by omega
    obtain rfl:r=[]:=List.eq_nil_of_length_eq_zero (by have:=hL.o;simpa[vk] using this);have hL:lf.ok ⟨0,[],l⟩:=hL;have zp:=Qh (nr:=none) (ne:=none) hL;have zq:=IC (nr:=none) (ne:=none) hL;have rp:=Zp hL;have rq:=NG hL;have hR:=z0Y hL;have tk:=oM hR;have hll:(lf.len ⟨0,[],l⟩:Nat)=l.length:=Nat.zero_add _;rw[hll] at zq;have kp:=Y3 (np:=none) (size:=(l.length:Int)) hR ⟨by omega,by omega⟩ hck;have kq:=OK (np:=none) (root:=Kr ⟨0,[],l⟩) (size:=(l.length:Int)) hck;simp only[Iu,ur,qn,JV] at zp zq rp rq vp vq;unfold EB qn at kp kq;have en:(bys []:List oH)=[]:=rfl;have z0:((0:Nat):Int)=0:=rfl;simp only[en,z0,List.length_nil] at zp zq rp rq vp vq b4;obtain⟨X3,hX3⟩:∃X3:List oH,X3=[i64 p.from',.sl .plain none p.ents.length (pS p.ents),.sl .plain none p.prs.length (Hv p.prs)]:=⟨_,rfl⟩;by_cases hz:IA (Kr ⟨0,[],l⟩) l.length p=0
    ·obtain⟨n0,s',P0,P1,hs',ha⟩:=ZG hz;obtain rfl:s'=l.length:=by omega
     rw[hz] at kq;have hm:=z7K E h391 h397 h398 h399 h376 h387 (l:=l) (A0:= .agg [i64 0,.sl .plain none 0 [],.sl .plain none l.length (pS l)]) (A1:= .agg [i64 p.from',.sl .plain none p.ents.length (pS p.ents),.sl .plain none p.prs.length (Hv p.prs)]) (A2:= .sl .plain none 0 []) rfl hsm (by omega) hR hck ha;unfold qn at hm;generalize Kr ⟨0,[],l⟩=rt at*
     simp(maxSteps:=999999) (disch:=first|omega|simp<;>omega|rfl) [fJ,oG,oF,oR,sO,kT,kF,dT,dF,h389,fp,fq,gp,gq,b1,b2,h395,np,nq,c3',h390,vp,vq,b4,h355,rp,rq,h349,zp,zq,hR,tk,oJ,h363,kp,kq];exact hm
    have kb:((IA (Kr ⟨0,[],l⟩) l.length p:Int) !=0)=true:=by rw[bne,beq_false_of_ne (by omega)];rfl
    generalize IA (Kr ⟨0,[],l⟩) l.length p=c at*
    generalize Kr ⟨0,[],l⟩=rt at*
    simp(maxSteps:=999999) (disch:=first|omega|simp<;>omega|rfl) [fJ,oG,oF,oR,sO,kT,kF,dT,dF,h389,fp,fq,gp,gq,b1,b2,h395,np,nq,c3',h390,vp,vq,b4,h355,rp,rq,h349,zp,zq,hR,tk,oJ,h363,kp,kq,kb,h391,s0,s1];skip
end Go.Abs