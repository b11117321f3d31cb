/- Lemmas. -/
import Derived.Test.YtiehmnjjlbndlaaGreatDoorU
set_option linter.all false
namespace Go.Abs
set_option maxRecDepth 100000
set_option maxHeartbeats 8000000
def z8j:aW:=⟨λds=>∃(nl:Option Bool) (es:List pm),Bh es∧es.length<=1000∧ds=[qn nl es],λds=>Pr none (oO (Cr (gNn (nth ds 0)) (gCs (nth ds 0))))⟩
theorem z2u{nl:Option Bool}{es:List pm}(h:Bh es)(h1:es.length<=1000):z8j.pre [qn nl es]=True:=eq_true ⟨nl,es,h,h1,rfl⟩
theorem RK{nl:Option Bool}{es:List pm}(h:Bh es):z8j.post [qn nl es]=Pr none (oO es):=by show Pr none (oO (Cr es.length (pS es)))=_;rw[An h]
theorem SG{es:List pm}{i:Nat}(h:i<es.length):oO (es.take (i+1))=oO (es.take i)++[bh 8 [tL es[i]]]:=by rw[oO,oO,List.take_succ_eq_append_getElem h,List.map_append];rfl
theorem z2Y(E:Env)(h334:E.G 334=C7):∀ds,z8j.pre ds->ds.length=py.n∧awp E py.body (qH py.res (z8j.post ds)) (fP py.wr ds):=by
 rintro _ ⟨nl,es,h,h1,rfl⟩;rw[RK h];unfold qn Pr;have hlen:=sd h;generalize hQf:qH py.res (.sl (.own 16) none (oO es).length (bys (dgs (oO es))))=Qf;simp(maxSteps:=999999) (disch:=first|omega|simp<;>omega|rfl) [fJ,oG,oF,py];refine oI λQ0 hQ0=> ?_;refine dH (λi:Nat=>⟨[(0,.sl .plain nl es.length (pS es))],[(3,.sl (.own 16) none (oO (es.take i)).length (bys (dgs (oO (es.take i))))),(4,i64 i)],[]⟩) (λi=>es.length-i) (λi=>i<=es.length) 0 (by simp[oO]) (by simp) λi hi=> ?_;refine oI λQ1 hQ1=> ?_;by_cases c:i<es.length
 ·have hat:=yO h c;have hs:=h _ (List.getElem_mem c);have p:=QT (nc:=none) (nm:=none) (ng:=none) hs;have q:=D5 (nc:=none) (nm:=none) (ng:=none) hs;have hxl:=Bq hs;have l1:30<=es.length*30-i*30:=by omega
  have l2:i*30<=es.length*30:=by omega
  have hT:=SG c;have hl:(oO (es.take i)).length=i:=by rw[N6,List.length_take];omega
  have dl:=pG 8 [tL es[i]];generalize bh 8 [tL es[i]]=D at*
  generalize es[i]=x at*
  generalize oO (es.take i)=A at*
  simp(maxSteps:=999999) (disch:=first|omega|simp<;>omega|rfl) [fJ,oG,oF,sZ,vw,kT,kF,dT,dF,c,hlen,hat,hxl,h334,p,q,l1,l2,dl,oJ,hl,hQ1];exact⟨⟨by omega,by omega⟩,i+1,by omega,by omega,⟨by rw[hT];simp[hl],by rw[hT];simp⟩,by omega⟩
 obtain rfl:i=es.length:=by omega
 simp(maxSteps:=999999) (disch:=first|omega|simp<;>omega|rfl) [fJ,oG,oF,sZ,vu,kT,kF,dT,dF,hQ1,hQ0,List.take_length,<-hQf,py];skip
theorem VD{s:Nat}{q:List (List UInt8)}{d:List UInt8}(h:qm q)(ho:q.length=oN s)(hs:s<=65536):Ub.post [.agg [i64 (s:Int),.sl .plain none q.length (bys (dgs q))],.agg (bys d)]= .tup [.agg [i64 ((s:Int)+1),.sl .plain none (xF q d (t1N s)).length (bys (dgs (xF q d (t1N s))))],i64 0]:=by
 have h1:H9 (s:Int) q d=(((s:Int)+1,xF q d (t1N s)),0):=by rw[H9,if_pos ⟨by simp[okP,ho];omega,by omega⟩,Int.toNat_natCast]
 rw[Nd h rfl rfl,h1];rfl
theorem OT(n:Nat)(q l:List (List UInt8))(d:List UInt8):sx n q (l++[d])=xF (sx n q l) d (t1N (n+l.length)):=by rw[Mm];rfl
theorem z3o(E:Env)(s:Nat)(c:av)(Q:aB->ASt->Prop)(st:ASt):awp E (.nm s c) Q st=∀q cap,(0<pvN (st.get s)->∃b,q=some ⟨b,0,none⟩)->awp E c Q (z5U s q cap st):=rfl
theorem KY(l:List UInt8):jZ (bys l)=True:=eq_true λc hc=>by obtain⟨x,_,rfl⟩:=List.mem_map.1 hc;exact⟨trivial,_,rfl⟩
theorem z1ea{s:Nat}{q:Option Addr}{cap:Nat}{st:ASt}{o:Option (Option Addr×Nat)}{e n:Nat}{cs:List oH}(h:st.get s= .pv o e n cs):z5U s q cap st={st with env:=(s,.pv (some (q,cap)) e n cs)::st.env}:=by rw[z5U,h]
theorem z5ra(E:Env)(h403:E.M 403=DP){p:Nat->Value}{sz n N k cap:Nat}{X X9:List oH}{EA:oH}{s:List (List UInt8)×Bool}{q:List (List UInt8)}{d:List UInt8}{qa:Option Addr}{Q0:aB->ASt->Prop}
  (hl:qm q) (ho:q.length=oN n) (hn:n<=65536) (hs:s.1.length<=800000000) (hq:0<q.length->∃b,qa=some ⟨b,0,none⟩)
  (hQ:Q0 .normal ⟨[(0,.lit (p 0))],[(0,.bp 0 0),(2,i64 sz),(4,.bp 4 0),(6,.pv (some (qa,cap)) 16 (q.length-t1N n) (bys (dgs (q.take (q.length-t1N n))))),(7,i64 n),(10,.bp 10 0),(28,EA),(29,i64 N),(30,i64 k)],[(0,some (hA (qS s (KN q d (t1N n)).reverse))),(4,some X),(9,some X9),(10,some (bys (zY q d (t1N n))))]⟩):
  awp E (.loop qC) (dL 2 Q0) ⟨[(0,.lit (p 0))],[(0,.bp 0 0),(2,i64 sz),(4,.bp 4 0),(6,.pv (some (qa,cap)) 16 q.length (bys (dgs q))),(7,i64 n),(10,.bp 10 0),(11,i64 n),(28,EA),(29,i64 N),(30,i64 k)],[(0,some (hA (qS s (KN q d 0).reverse))),(4,some X),(9,some X9),(10,some (bys (zY q d 0)))]⟩:=by
 have gt:=w5 n;have g2:=CI n;refine dH (λi:Nat=>⟨[(0,.lit (p 0))],[(0,.bp 0 0),(2,i64 sz),(4,.bp 4 0),(6,.pv (some (qa,cap)) 16 (q.length-i) (bys (dgs (q.take (q.length-i))))),(7,i64 n),(10,.bp 10 0),(11,i64 (hlf n i)),(28,EA),(29,i64 N),(30,i64 k)],[(0,some (hA (qS s (KN q d i).reverse))),(4,some X),(9,some X9),(10,some (bys (zY q d i)))]⟩) (λi=>t1N n-i) (λi=>i<=t1N n) 0 (by simp[hlf]) (Nat.zero_le _) λi hi=> ?_;refine oI λQ1 hQ1=> ?_;have fl:=vA q d i;have tk:=oM fl;have hth:=PW n i (by omega);have hle:=RY n i;have et:((hlf n i:Nat):Int).tmod 2=((hlf n i% 2:Nat):Int):=rfl;have hpi:=Ji (hlf n i);have hpl:=Ab s (KN q d i).reverse;rw[List.length_reverse,MJ] at hpl;have hpc:=EC s (KN q d i).reverse (mY 2 [ul q (q.length-1-i),zY q d i]);generalize ht:t1N n=t at*
 by_cases h:i<t
 ·obtain⟨b,rfl⟩:=hq (by omega);have ho1:hlf n i% 2=1:=hpi.1 (by omega);have l2:(q.take (q.length-i)).length=q.length-i:=by rw[List.length_take];omega
  have h16:=sD hl (q.length-i);have hat:=zW h16 (show q.length-i-1<(q.take (q.length-i)).length by omega);rw[UX (by omega)] at hat;have hal:=sG hl (show q.length-i-1<q.length by omega);have es:cT (mY 2 [ul q (q.length-i-1),zY q d i])=zY q d (i+1):=by rw[zY,show q.length-1-i=q.length-i-1 by omega];rfl
  have fl1:=vA q d (i+1);have tk1:=oM fl1;have ei:(((q.length-i:Nat):Int)-1).toNat=q.length-i-1:=by omega
  have hdl:=qL h16;rw[l2] at hdl;have hnp:DP.pre [.ep (hA (qS s (KN q d i).reverse)),.agg (bys (ul q (q.length-i-1))),.agg (bys (zY q d i))]=True:=M8 (by omega) hal fl;have htk:=xt h16 (q.length-i-1);rw[List.take_take,Nat.min_eq_left (by omega)] at htk;rw[show q.length-1-i=q.length-i-1 by omega] at hpc;simp(maxSteps:=999999) (disch:=first|omega|simp<;>omega|rfl) [fJ,oG,oF,qC,tP,et,ho1,kT,kF,hat,hdl,ei,h403,hnp,es,fl1,fl,tk,tk1,oJ,htk];refine⟨⟨by omega,by omega⟩,by omega,⟨by omega,by omega⟩,?_⟩;rw[hQ1];refine⟨i+1,by omega,by omega,?_⟩;have e1:(KN q d (i+1)).reverse=(KN q d i).reverse++[mY 2 [ul q (q.length-i-1),zY q d i]]:=by rw[KN,List.reverse_cons,show q.length-1-i=q.length-i-1 by omega]
  rw[e1,hpc,hlf,Nat.sub_sub];simp
 obtain rfl:i=t:=by omega
 have ho1:hlf n i% 2=0:=by omega
 simp(maxSteps:=999999) (disch:=first|omega|simp<;>omega|rfl) [fJ,oG,oF,qC,et,ho1,kT,kF];rw[hQ1];exact hQ
theorem z4Aa(E:Env)(h397:E.M 397=Fj)(h402:E.M 402=EG)(h403:E.M 403=DP){p:Nat->Value}{sz n k:Nat}{X:List oH}{es:List pm}{s:List (List UInt8)×Bool}{q:List (List UInt8)}{Q1:aB->ASt->Prop}
  (he:Bh es) (hb:∀x∈es,(tL x).length<=900000000000) (hX:pT X=[]) (hes:es.length<=1000) (hk:k<es.length) (hl:qm q) (ho:q.length=oN n) (hn:n<=65536) (hs:s.1.length<=700000000)
  (hQ:Q1 .normal ⟨[(0,.lit (p 0))],[(0,.bp 0 0),(2,i64 sz),(4,.bp 4 0),(6,.pv none 16 (xF q (bh 8 [tL es[k]]) (t1N n)).length (bys (dgs (xF q (bh 8 [tL es[k]]) (t1N n))))),(7,i64 (n+1:Nat)),(28,.sl .plain none es.length (pS es)),(29,i64 es.length),(30,i64 (k+1:Nat))],[(0,some (hA (qS s (z0q n q es[k])))),(4,some X)]⟩):
  awp E qB Q1 ⟨[(0,.lit (p 0))],[(0,.bp 0 0),(2,i64 sz),(4,.bp 4 0),(6,.pv none 16 q.length (bys (dgs q))),(7,i64 n),(28,.sl .plain none es.length (pS es)),(29,i64 es.length),(30,i64 k)],[(0,some (hA s)),(4,some X)]⟩:=by
 have sa:=he _ (List.getElem_mem hk);have ba:=hb _ (List.getElem_mem hk);have xa:=yO he hk;have la:=Bq sa;have ea:=sd he;have l1:30<=es.length*30-k*30:=by omega
 have l2:k*30<=es.length*30:=by omega
 have hc:(k:Int)<es.length:=by omega
 rw[z0q] at hQ;generalize es[k]=x at*
 have hp1:=RM (s:=s) (x:=x) (by omega) sa ba;have hq1:=Kf (.ep (hA s)) sa;have hx1:=λj=>MP s sa j;have hd16:(bh 8 [tL x]).length=16:=pG _ _;rw[show cT (mY 8 [tL x])=bh 8 [tL x] from rfl] at hq1;rw[Gs] at hQ;have hsl:(DG s (mY 8 [tL x])).1.length<=800000000:=by simp only[DG,List.length_append,List.length_singleton];omega
 generalize DG s (mY 8 [tL x])=s1 at*
 generalize bh 8 [tL x]=d at*
 have f1:∀c∈qf none none none x,ah c:=λc hc=>(w7 none none none x c hc).2;have f2:∀c∈qf none none none x,ao c=false:=by simp[qf,yP,or_imp,forall_and]
 have f3:au (qf none none none x)=true:=(bE _).2 λc hc=>(w7 none none none x c hc).1;generalize qf none none none x=Y at*
 have tX:Y.take 30=Y:=List.take_of_length_le (by omega);have hp2:=R0 (s:=s1) (by omega) hd16;have hq2:EG.post [.ep (hA s1),.agg (bys d)]= .agg (bys (zY q d 0)):=WZ _ d;have hx2:∀j,EG.out [.ep (hA s1),.agg (bys d)] j=hA (qS s1 (KN q d 0).reverse):=λj=>Zd s1 d j;have fl:=vA q d 0;have tk:=oM fl;simp(maxSteps:=999999) (disch:=first|omega|simp<;>omega|rfl) [fJ,oG,oF,qB,tR,kT,kF,dT,dF,hc,xa,la,l1,l2,ea,h397,hp1,hq1,hx1,h402,hp2,hq2,hx2,fl,tk,oJ,tX,f3];refine⟨⟨f1,f2⟩,?_⟩;refine oI λQ2 hQ2=> ?_;rw[z3o];intro qa cap hqa;rw[z1ea rfl];simp(maxSteps:=999999) (disch:=first|omega|simp<;>omega|rfl) [kT,kF];refine z5ra E h403 hl ho hn hsl hqa ?_;rw[hQ2];show awp E rN _ _;have gt:=w5 n;have g2:=CI n;have fl1:=vA q d (t1N n);have tk1:=oM fl1;have el:dgs (xF q d (t1N n))=dgs (q.take (q.length-t1N n))++zY q d (t1N n):=by rw[xF,Ct,wV,JV,List.append_nil]
 have ell:(xF q d (t1N n)).length=q.length-t1N n+1:=by simp[xF]
 rw[el,ell] at hQ;simp(maxSteps:=999999) (disch:=first|omega|simp<;>omega|rfl) [fJ,oG,oF,rN,kT,kF,dT,dF,fl1,tk1,oJ,KY];refine⟨⟨by omega,by omega⟩,by simp[hX],?_⟩;exact hQ
theorem Se(x:pm):∀(l:List pm) (n:Nat) (q:List (List UInt8)),adI n q (l++[x])=adI n q l++z0q (n+l.length) (sx n q (oO l)) x
 |[],n,q=>by simp[adI,sx,oO]
 |y::l,n,q=>by rw[List.cons_append,adI,adI,Se x l,Uw,List.append_assoc,List.length_cons,show n+1+l.length=n+(l.length+1) by omega]
theorem z5f{l:List pm}{k:Nat}(h:k<l.length)(n:Nat)(q:List (List UInt8)):adI n q (l.take (k+1))=adI n q (l.take k)++z0q (n+k) (sx n q (oO (l.take k))) l[k]∧sx n q (oO (l.take (k+1)))=xF (sx n q (oO (l.take k))) (bh 8 [tL l[k]]) (t1N (n+k)):=by
 have e:l.take (k+1)=l.take k++[l[k]]:=by rw[List.take_append_getElem]
 have hl:(l.take k).length=k:=by rw[List.length_take];omega
 have hd:(oO (l.take k)).length=k:=by rw[oO,List.length_map,hl]
 rw[e,Se,hl];refine⟨rfl,?_⟩;rw[show oO (l.take k++[l[k]])=oO (l.take k)++[bh 8 [tL l[k]]] from List.map_append,OT,hd]
def Pe(q:List (List UInt8)):Nat->List (List UInt8)
 |0=>[]
 |i+1=>Pe q i++[mY 2 [ul q (q.length-2-i),FZ q i]]
theorem RA(q:List (List UInt8)):∀i,(Pe q i).length=i
 |0=>rfl
 |i+1=>by rw[Pe,List.length_append,RA q i];rfl
theorem I6(a:List UInt8)(q:List (List UInt8))(hq:0<q.length):∀i,i<q.length->Pe (a::q) i=Pe q i
 |0,_=>rfl
 |i+1,h=>by rw[Pe,Pe,I6 a q hq i (by omega),Dc a q hq i (by omega),List.length_cons,show q.length+1-2-i=(q.length-2-i)+1 by omega];rfl
theorem Sh:∀q:List (List UInt8),Pe q (q.length-1)=(Zs q).reverse
 |[]=>rfl
 |[_]=>rfl
 |a::b::q=>by
  have ih:=Sh (b::q);have h0:0<(b::q).length:=by simp
  rw[Zs,List.reverse_cons,<-ih,show(a::b::q).length-1=((b::q).length-1)+1 by simp,Pe,I6 a _ h0 _ (by omega),Dc a _ h0 _ (by omega),Fa];have e:(a::b::q).length-2-((b::q).length-1)=0:=by simp
  rw[e];rfl
theorem z1W(E:Env)(h401:E.M 401=Ks){p:Nat->Value}{s:List (List UInt8)×Bool}{I:List (List UInt8)}{Q:aB->ASt->Prop}
  (hI:∀b∈I,b.length<=51) (hl:I.length<=10000) (hs:s.1.length<=900000000) {x4 x12 x15 x16:Option (List oH)}
  (hQ:Q .normal ⟨[(0,.lit (p 0))],[(0,.bp 0 0)],[(0,some (hA (qS s I))),(4,x4),(9,none),(10,none),(12,x12),(15,x15),(16,x16)]⟩):
  awp E (.loop qw) (dL 6 Q) ⟨[(0,.lit (p 0))],[(0,.bp 0 0),(98,.sl .plain none I.length (plC I)),(99,i64 I.length),(100,i64 0)],[(0,some (hA s)),(4,x4),(9,none),(10,none),(12,x12),(15,x15),(16,x16)]⟩:=by
 refine dH (λi:Nat=>⟨[(0,.lit (p 0))],[(0,.bp 0 0),(98,.sl .plain none I.length (plC I)),(99,i64 I.length),(100,i64 i)],[(0,some (hA (qS s (I.take i)))),(4,x4),(9,none),(10,none),(12,x12),(15,x15),(16,x16)]⟩) (λi=>I.length-i) (λi=>i<=I.length) 0 (by simp[Dn]) (Nat.zero_le _) λi hi=> ?_;refine oI λQ1 hQ1=> ?_;by_cases h:i<I.length
 ·have hc:(i:Int)<I.length:=by omega
  have hat:hdA ((plC I).drop i)= .sl .plain (some false) I[i].length (bys I[i]):=by rw[plC,List.drop_eq_getElem_cons (by simpa using h),List.getElem_map];rfl
  have hb:=hI _ (List.getElem_mem h);have hpl:=Ab s (I.take i);rw[List.length_take] at hpl;have hp:=Kc (s:=qS s (I.take i)) (nl:=some false) (x:=I[i]) (by omega) (by omega) rfl;have hsn:qS s (I.take (i+1))=DG (qS s (I.take i)) I[i]:=by rw[<-List.take_append_getElem h,EC]
  generalize I[i]=b at*
  simp(maxSteps:=999999) (disch:=first|omega|simp<;>omega|rfl) [fJ,oG,oF,qw,tO,kT,kF,dT,dF,hc,h,hat,h401,hp];refine⟨by omega,?_⟩;rw[hQ1];exact⟨i+1,by omega,by omega,by rw[hsn];rfl⟩
 obtain rfl:i=I.length:=by omega
 simp(maxSteps:=999999) (disch:=first|omega|simp<;>omega|rfl) [fJ,oG,oF,qw,kT,kF,dT,dF];rw[hQ1];exact hQ
theorem z40(E:Env)(h208:E.G 208=P6)(h401:E.M 401=Ks)(h403:E.M 403=DP){p:Nat->Value}{np:Option Bool}{fr n size:Nat}{es:oH}{P0 P1 q:List (List UInt8)}{s:List (List UInt8)×Bool}{c:CM}{ds:List oH}
  (hbx:c.bx=[0]) (hnb:c.nb=[]) (hpo:c.post ds= .tup []) (hout:∀j,c.out ds j=hA (qS s ((Zs q).reverse++(yI n size true (Fa q) P1.reverse).1)))
  (hl:qm q) (hq0:0<q.length) (hq1:q.length<=65536) (h1:qm P1) (l1:P1.length<=1000) (hn:1<=n) (hns:n<=size) (hsz:size<=65536) (hs:s.1.length<=800000000):
  awp E (.nm 6 qA) (PY [] c p ds) ⟨[(0,.lit (p 0))],[(0,.bp 0 0),(2,i64 size),(4,.bp 4 0),(6,.pv none 16 q.length (bys (dgs q))),(7,i64 n)],[(0,some (hA s)),(4,some [i64 fr,es,.sl .plain np 2 [.sl .plain none P0.length (bys (dgs P0)),.sl .plain none P1.length (bys (dgs P1))]])]⟩:=by
 rw[z3o];intro qa cap hqa;obtain⟨b,rfl⟩:=hqa hq0;rw[z1ea rfl];have hat:=zW hl (show q.length-1<q.length by omega);have hal:=sG hl (show q.length-1<q.length by omega);have ei:((q.length:Int)-1).toNat=q.length-1:=by omega
 have hdl:=qL hl;have tk:=oM hal;refine oI λQ0 hQ0=> ?_;unfold qA;rw[qg];refine oI λQ1 hQ1=> ?_;simp(maxSteps:=999999) (disch:=first|omega|simp<;>omega|rfl) [fJ,oG,oF,kT,kF,dT,dF,hat,hal,ei,hdl,tk,oJ];refine⟨⟨by omega,by omega⟩,by omega,?_⟩;rw[hQ1];show awp E _ _ _;rw[qg];refine oI λQ2 hQ2=> ?_;simp(maxSteps:=999999) (disch:=first|omega|simp<;>omega|rfl) [fJ,oG,oF,kT,kF,dT,dF];obtain⟨X,hX⟩:∃X:List oH,X=[i64 fr,es,.sl .plain np 2 [.sl .plain none P0.length (bys (dgs P0)),.sl .plain none P1.length (bys (dgs P1))]]:=⟨_,rfl⟩;rw[<-hX];refine dH (λi:Nat=>⟨[(0,.lit (p 0))],[(0,.bp 0 0),(2,i64 size),(4,.bp 4 0),(6,.pv (some (some ⟨b,0,none⟩,cap)) 16 q.length (bys (dgs q))),(7,i64 n),(12,.bp 12 0),(13,i64 ((q.length:Int)-2-i))],[(0,some (hA (qS s (Pe q i)))),(4,some X),(9,none),(10,none),(12,some (bys (FZ q i)))]⟩) (λi=>q.length-1-i) (λi=>i<=q.length-1) 0 (by simp[Pe,Dn,FZ]) (Nat.zero_le _) λi hi=> ?_;refine oI λQ3 hQ3=> ?_;have tl:=vC hl hq0 i;have tk0:=oM tl;have hpl:=Ab s (Pe q i);rw[RA] at hpl;by_cases h:i<q.length-1
 ·have hat:=zW hl (show q.length-2-i<q.length by omega);have hal:=sG hl (show q.length-2-i<q.length by omega);have tl1:=vC hl hq0 (i+1);have tk1:=oM tl1;have es:cT (mY 2 [ul q (q.length-2-i),FZ q i])=FZ q (i+1):=rfl;have ei:((q.length:Int)-2-i).toNat=q.length-2-i:=by omega
  have hc:0<=(q.length:Int)-2-i:=by omega
  have hp:=M8 (s:=qS s (Pe q i)) (by omega) hal tl;have hsn:qS s (Pe q (i+1))=DG (qS s (Pe q i)) (mY 2 [ul q (q.length-2-i),FZ q i]):=by rw[Pe,EC]
  simp(maxSteps:=999999) (disch:=first|omega|simp<;>omega|rfl) [fJ,oG,oF,rO,tN,kT,kF,dT,dF,hc,ei,hat,hdl,tk0,tl,tl1,tk1,h403,hp,es,oJ];refine⟨⟨by omega,by omega⟩,by omega,?_⟩;rw[hQ3];refine⟨i+1,by omega,by omega,?_⟩;rw[hsn,show(q.length:Int)-2-i-1=(q.length:Int)-2-((i+1:Nat):Int) by omega]
 obtain rfl:i=q.length-1:=by omega
 have hc:¬0<=(q.length:Int)-2-(q.length-1:Nat):=by omega
 simp(maxSteps:=999999) (disch:=first|omega|simp<;>omega|rfl) [fJ,oG,oF,rO,kT,kF,dT,dF,hc];rw[hQ3];show Q2 .normal _;rw[hQ2];show awp E rP _ _;have hp:P6.pre [.agg (bys (FZ q (q.length-1))),i64 n,i64 size,bo true,.sl .plain none P1.length (bys (dgs P1))]=True:=Es tl hn hns (by omega) h1 l1 rfl rfl;have hq:=Gp (old:=FZ q (q.length-1)) (m:=n) (n:=size) (w:=true) (md:= .plain) (nl:=none) h1 rfl rfl;have hcnt:=GR (old:=FZ q (q.length-1)) P1.reverse n size true;rw[List.length_reverse] at hcnt;have hsm:=G3 tl P1.reverse n size true (E1 h1);obtain⟨t1,t2⟩:=BU tl P1.reverse n size true (E1 h1);rw[Ag,<-Sh,Fa] at hout;generalize yI n size true (FZ q (q.length-1)) P1.reverse=T at*
 obtain⟨I,A,B⟩:=T;simp only[TC] at hq hcnt hsm t1 t2 hout;have k1:=oM t1;have k2:=oM t2;subst hX;unfold rP;rw[qg];refine oI λQ4 hQ4=> ?_;simp(maxSteps:=999999) (disch:=first|omega|simp<;>omega|rfl) [fJ,oG,oF,kT,kF,dT,dF,tl,tk0,h208,hp,hq,k1,k2,t1,t2,oJ];rw[hQ4];show awp E _ _ _;rw[qg];refine oI λQ5 hQ5=> ?_;simp(maxSteps:=999999) (disch:=first|omega|simp<;>omega|rfl) [kT,kF];rw[hQ5];show awp E _ _ _;rw[kg];refine z1W E h401 hsm (by omega) (by omega) ?_;rw[hQ0];simp[PY,hbx,hnb,hpo,hout]
theorem z9a{fr size k:Nat}{es:List pm}{P0 P1:List (List UInt8)}(h:z9L fr size es P0 P1):(adI fr P0 (es.take k)).length<=100000000:=by
 have h1:=TT 65536 (es.take k) fr P0 (by have:=h.s1;have:=h.s2;rw[List.length_take];omega);have h5:=h.n2;have h2:(es.take k).length<=1000:=by rw[List.length_take];omega
 have h10:(es.take k).length*(65536+2)<=1000*65538:=Nat.mul_le_mul_right _ h2;omega
theorem z52(E:Env)(h208:E.G 208=P6)(h397:E.M 397=Fj)(h401:E.M 401=Ks)(h402:E.M 402=EG)(h403:E.M 403=DP):∀ds p,QN.pre ds->ds.length=pu.n∧awp E pu.body (PY pu.res QN p ds) (nW QN.bx p ds):=by
 rintro _ p ⟨s,np,fr,size,es,P0,P1,h,hs,rfl⟩;have hpost:=λj=>U6 (s:=s) (np:=np) h j;have d0:=qL h.p0;have l0:=h.l0;have s1:=h.s1;have s2:=h.s2;have n1:=h.n1;have n2:=h.n2;have b0:=CI fr;have hbnd:=λk=>z9a (k:=k) h;simp only[EB] at hpost⊢;have e1:QN.nb=[]:=rfl;have hpp:=z2g;simp(maxSteps:=999999) (disch:=first|omega|simp<;>omega|rfl) [fJ,oG,oF,pu,kT,kF,dT,dF,qn,Hv,ur,d0,KY];refine⟨⟨by omega,by omega⟩,?_⟩;refine oI λQ0 hQ0=> ?_;obtain⟨X,hX⟩:∃X:List oH,X=[i64 fr,.sl .plain none es.length (pS es),.sl .plain np 2 [.sl .plain none P0.length (bys (dgs P0)),.sl .plain none P1.length (bys (dgs P1))]]:=⟨_,rfl⟩;rw[<-hX];refine dH (λk:Nat=>⟨[(0,.lit (p 0))],[(0,.bp 0 0),(2,i64 size),(4,.bp 4 0),(6,.pv none 16 (sx fr P0 (oO (es.take k))).length (bys (dgs (sx fr P0 (oO (es.take k)))))),(7,i64 (fr+k:Nat)),(28,.sl .plain none es.length (pS es)),(29,i64 es.length),(30,i64 k)],[(0,some (hA (qS s (adI fr P0 (es.take k))))),(4,some X)]⟩) (λk=>es.length-k) (λk=>k<=es.length) 0 (by simp[sx,adI,oO,Dn]) (Nat.zero_le _) λk hk=> ?_;have hq16:qm (sx fr P0 (oO (es.take k))):=Dg h.p0;have hql:=yM (oO (es.take k)) h.l0;have hdl:(oO (es.take k)).length=k:=by rw[oO,List.length_map,List.length_take];omega
 rw[hdl] at hql;have hpl:=Ab s (adI fr P0 (es.take k));have hbk:=hbnd k;refine oI λQ1 hQ1=> ?_;by_cases c:k<es.length
 ·obtain⟨t1,t2⟩:=z5f c fr P0;refine z4Aa E h397 h402 h403 h.e h.b (by rw[hX];simp) n2 c hq16 hql (by omega) (by omega) ?_;rw[hQ1];exact⟨k+1,by omega,by omega,by rw[t1,t2,Ag];rfl⟩
 obtain rfl:k=es.length:=by omega
 rw[List.take_length] at hq16 hql hpl hbk⊢;have hc:¬(es.length:Int)<es.length:=by omega
 simp(maxSteps:=999999) (disch:=first|omega|simp<;>omega|rfl) [fJ,oG,oF,qB,kT,kF,dT,dF,hc];rw[hQ1];show Q0 (.exit 0) _;rw[hQ0,hX];show awp E (.nm 6 qA) _ _;refine z40 E h208 h401 h403 rfl rfl rfl (λj=> ?_) hq16 (by rw[hql];exact Fx (by omega)) (by have:=CI (fr+es.length);omega) h.p1 h.l1 (by omega) h.s1 h.s2 (by omega);refine(hpost j).trans ?_;rw[piI,List.append_assoc,Ag]
attribute [local simp] Ky fnd wIn bU gv
@[simp] theorem nS(b:Bool):fy (bo b)=true:=rfl
@[simp] theorem gO(ids:List Nat)(bx:Nat->List oH)(b:Bool):eE ids bx (bo b)=bo b:=rfl
@[simp] theorem mA(b:Int):fy (i64 b)=true:=rfl
structure Vpr where
 m:Nat
 n:Nat
 out:List Bool
set_option maxHeartbeats 8000000 in
theorem z7W(E:Env)(h167:E.G 167=LM)(h165:E.G 165=shM)(h169:E.G 169=EH)(hC174:E.C 174=Fc)(h175:E.G 175=z7l)(old root:List UInt8)(m n:Nat)(nl:Option Bool)(pr:List (List UInt8))(ho:old.length=16)(hrt:root.length=16)(hn:n<=9223372036854775807)(hp:qm pr)(hpl:pr.length<=1000)(hm:1<=m)(hmn:m<=n):
  awp E tB (qH [.t 10] (bo (vpO (dpd m n) old root pr))) ⟨[(0,.agg (bys old)),(1,.agg (bys root)),(4,.sl .plain nl pr.length (bys (dgs pr)))],[(2,i64 m),(3,i64 n),(5,.bp 5 0),(6,.bp 6 0)],[(5,some (bys old)),(6,some (bys root))]⟩:=by
 have hDl:=P7 63 m n (by omega);have mid:=λx11 nx=>z6ga E h165 h169 old root nl nx (dpd m n) pr x11 ho hrt hp hpl;obtain⟨D,hD⟩:∃D,D=dpd m n:=⟨_,rfl⟩;rw[<-hD] at hDl mid⊢;rw[tB];simp(maxSteps:=999999) (disch:=first|omega|simp<;>omega|rfl) [fJ,oG,oF];refine oI λQ1 hQ1=> ?_;refine dH (λs:Vpr=>⟨[(0,.agg (bys old)),(1,.agg (bys root)),(4,.sl .plain nl pr.length (bys (dgs pr)))],[(2,i64 s.m),(3,i64 s.n),(5,.bp 5 0),(6,.bp 6 0),(11,.sl (.own 1) none s.out.length (bos s.out)),(12,bo (s.out.all (! ·)))],[(5,some (bys old)),(6,some (bys root))]⟩) (λs=>s.n) (λs=>1<=s.m∧s.m<=s.n∧s.n<=n∧s.out++dpd s.m s.n=D) ⟨m,n,[]⟩ rfl ⟨hm,hmn,Nat.le_refl _,by simpa using hD.symm⟩ λs hs=> ?_;obtain⟨m',n',out⟩:=s;obtain⟨h1,h2,h3,h4⟩:=hs;simp only at h1 h2 h3 h4⊢;have hol:out.length<=63:=by rw[<-h4,List.length_append] at hDl;omega
 have hbo:=yx out;refine oI λQ2 hQ2=> ?_;by_cases hlt:m'<n'
 ·have lt1:(m':Int)<n':=by omega
  have hk1:=kK (n:=n') (by omega);have hk0:=yl n';rw[MN ⟨h1,hlt⟩] at h4;generalize hK:spl n'=k at*
  have hap:∀b:Bool,bos out++[bo b]=bos (out++[b]):=λb=>z9D out [b];by_cases hmk:m'<=k
  ·have le1:(m':Int)<=k:=by omega
   have gt1:¬((k:Int)<m'):=by omega
   rw[if_pos hmk] at h4;simp(maxSteps:=999999) (disch:=first|omega|simp<;>omega|rfl) [fJ,oG,oF,rR,tH,lt1,le1,gt1,kT,kF,dT,dF,h167,hK,EO,hQ2,hap];refine⟨by omega,⟨m',k,out++[false]⟩,hk1,⟨h1,hmk,by show k<=n;omega,by simpa using h4⟩,?_⟩;simp
  have le1:¬((m':Int)<=k):=by omega
  have gt1:(k:Int)<m':=by omega
  rw[if_neg hmk] at h4;simp(maxSteps:=999999) (disch:=first|omega|simp<;>omega|rfl) [fJ,oG,oF,rR,tH,wi,lt1,le1,gt1,kT,kF,dT,dF,h167,hK,EO,hQ2,hap];refine⟨by omega,⟨m'-k,n'-k,out++[true]⟩,by show n'-k<n';omega,⟨by show 1<=m'-k;omega,by show m'-k<=n'-k;omega,by show n'-k<=n;omega,by simpa using h4⟩,by show(m':Int)-k=((m'-k:Nat):Int);omega,by show(n':Int)-k=((n'-k:Nat):Int);omega,?_⟩;simp
 have lt1:¬((m':Int)<n'):=by omega
 rw[Hs (by omega),List.append_nil] at h4;subst h4;simp(maxSteps:=999999) (disch:=first|omega|simp<;>omega|rfl) [fJ,oG,oF,rR,lt1,kT,kF,dT,dF,hQ2,hQ1];rw[z6ta,qg,z2q,qd];simp only[];show _∨_;by_cases h0:out=[]
 ·subst h0;refine .inr ?_;simp(maxSteps:=999999) (disch:=first|omega|simp<;>omega|rfl) [fJ,oG,oF,h175,z7l];exact⟨rfl,mid _ _ rfl rfl⟩
 have h1:0<out.length:=List.length_pos_iff.2 h0;refine .inl ?_;have hb':=yx out.reverse;simp(maxSteps:=999999) (disch:=first|omega|simp<;>omega|rfl) [fJ,oG,oF,hC174,okW,gk,Wk,z3T,h1,VR h1,VI (l:=out),ZE,hbo,hb',IW];have hs:(bos out.reverse).take out.length=bos out.reverse:=List.take_of_length_le (by rw[hb',List.length_reverse];exact Nat.le_refl _);rw[hs];exact mid _ _ rfl rfl
set_option maxHeartbeats 4000000 in
theorem z48(E:Env)(h167:E.G 167=LM)(h165:E.G 165=shM)(h169:E.G 169=EH)(hC174:E.C 174=Fc)(h175:E.G 175=z7l):∀ds,RX.pre ds->ds.length=pF.n∧awp E pF.body (qH pF.res (RX.post ds)) (fP pF.wr ds):=by
 rintro _ ⟨old,root,m,n,nl,p,ho,hr,hn,hp,hpl,rfl⟩;rw[ur,GQ hp,vpN];by_cases hm:1<=m∧m<=n
 ·obtain⟨m',rfl⟩:=Int.eq_ofNat_of_zero_le (show 0<=m by omega);obtain⟨n',rfl⟩:=Int.eq_ofNat_of_zero_le (show 0<=n by omega);have c1:¬((m':Int)<1):=by omega
  have c2:¬((n':Int)<m'):=by omega
  rw[if_pos hm,Int.toNat_natCast,Int.toNat_natCast];have top:=z7W E h167 h165 h169 hC174 h175 old root m' n' nl p ho hr (by omega) hp hpl (by omega) (by omega);simp(maxSteps:=999999) (disch:=first|omega|simp<;>omega|rfl) [fJ,oG,oF,pF,c1,c2,kT,kF,dT,dF,ho,hr];exact top
 rw[if_neg hm];by_cases h1:m<1
 ·simp(maxSteps:=999999) (disch:=first|omega|simp<;>omega|rfl) [fJ,oG,oF,pF,h1,kT,kF,dT,dF,ho,hr]
 have h2:n<m:=by omega
 simp(maxSteps:=999999) (disch:=first|omega|simp<;>omega|rfl) [fJ,oG,oF,pF,h1,h2,kT,kF,dT,dF,ho,hr]
end Go.Abs
namespace Go.Abs
set_option maxRecDepth 100000
set_option maxHeartbeats 8000000
def z5y:aW:=⟨QO,λds=>bo (!okE (K4 (gCs (nth ds 0))))⟩
theorem z0x{nc nm ng:Option Bool}{x:pm}(h:x.small):z5y.pre [.agg (qf nc nm ng x)]=True:=Md h
theorem RW{nc nm ng:Option Bool}{x:pm}(h:x.small):z5y.post [.agg (qf nc nm ng x)]=bo (!okE x):=by show bo (!okE (K4 (qf nc nm ng x)))=_;rw[ME h]
theorem z19(E:Env)(h300:E.G 300=PQ):∀ds,z5y.pre ds->ds.length=rc.n∧awp E rc.body (qH rc.res (z5y.post ds)) (fP rc.wr ds):=by
 rintro _ ⟨nc,nm,ng,x,h,rfl⟩;rw[RW h];have p1:=Md (nc:=nc) (nm:=nm) (ng:=ng) h;have p2:=Gd (nc:=nc) (nm:=nm) (ng:=ng) h;have hl:=uD (nc:=nc) (nm:=nm) (ng:=ng) h.1.2.2.2.2.2.1;have f1:∀c∈qf nc nm ng x,ah c:=λc hc=>(w7 nc nm ng x c hc).2;have f2:∀c∈qf nc nm ng x,ao c=false:=by simp[qf,yP,or_imp,forall_and]
 have f3:au (qf nc nm ng x)=true:=(bE _).2 λc hc=>(w7 nc nm ng x c hc).1;generalize qf nc nm ng x=Y at*
 have tX:Y.take 30=Y:=List.take_of_length_le (by omega);simp(maxSteps:=999999) (disch:=first|omega|simp<;>omega|rfl) [fJ,rc,hl,tX,h300,p1,p2,f3];exact⟨f1,f2⟩
def z1ma(l:List pm):Option Nat:=l.findIdx? λx=> !okE x
def Xj(l:List pm):Int:=match z1ma l with|some i=>i|none=> -1
def TD(l:List pm):Bool:=l.all okE
def Ox:aW:=⟨λds=>∃(nl:Option Bool) (l:List pm),Bh l∧l.length<=1000∧ds=[qn nl l,.fn 361 [] []],λds=>i64 (Xj (Cr (gNn (nth ds 0)) (gCs (nth ds 0))))⟩
def Qt:aW:=⟨Ox.pre,λds=>bo (!TD (Cr (gNn (nth ds 0)) (gCs (nth ds 0))))⟩
theorem z3i{nl:Option Bool}{l:List pm}(h:Bh l)(hl:l.length<=1000):Ox.pre [qn nl l,.fn 361 [] []]=True:=eq_true ⟨nl,l,h,hl,rfl⟩
theorem Pa{nl:Option Bool}{l:List pm}(h:Bh l):Ox.post [qn nl l,.fn 361 [] []]=i64 (Xj l):=by show i64 (Xj (Cr l.length (pS l)))=_;rw[An h]
theorem Xq{nl:Option Bool}{l:List pm}(h:Bh l)(hl:l.length<=1000):Qt.pre [qn nl l,.fn 361 [] []]=True:=eq_true ⟨nl,l,h,hl,rfl⟩
theorem Ot{nl:Option Bool}{l:List pm}(h:Bh l):Qt.post [qn nl l,.fn 361 [] []]=bo (!TD l):=by show bo (!TD (Cr l.length (pS l)))=_;rw[An h]
theorem z77{l:List pm}{i:Nat}(h:i<l.length)(hx:okE l[i]=false)(hj:∀j (hj:j<i),okE (l[j]'(by omega))=true):Xj l=i:=by rw[Xj,z1ma,List.findIdx?_eq_some_iff_getElem.2 ⟨h,by simp[hx],λj hji=>by simp[hj j hji]⟩]
theorem X0{l:List pm}(hj:∀j (hj:j<l.length),okE l[j]=true):Xj l= -1:=by
 rw[Xj,z1ma,List.findIdx?_eq_none_iff.2 λx hx=>by
  obtain⟨i,hi,rfl⟩:=List.mem_iff_getElem.1 hx;simp[hj i hi]]
theorem Zc(l:List pm):decide (0<=Xj l)= !TD l:=by
 unfold Xj;cases hi:z1ma l with
 |none=>
  have h:=List.findIdx?_eq_none_iff.1 hi;have:TD l=true:=List.all_eq_true.2 λx hx=>by simpa using h x hx
  simp[this]
 |some i=>
  obtain⟨h,hx,_⟩:=List.findIdx?_eq_some_iff_getElem.1 hi;have:TD l=false:=by
   cases he:TD l with
   |false=>rfl
   |true=>have:=List.all_eq_true.1 he _ (List.getElem_mem h);simp[this] at hx
  simp[this]
theorem z4y(E:Env)(h361:E.G 361=z5y):∀ds,Ox.pre ds->ds.length=oL.n∧awp E oL.body (qH oL.res (Ox.post ds)) (fP oL.wr ds):=by
 rintro _ ⟨nl,l,h,hl,rfl⟩;rw[Pa h];unfold qn;have ea:=sd h;generalize hQf:qH oL.res (i64 (Xj l))=Qf;simp(maxSteps:=999999) (disch:=first|omega|simp<;>omega|rfl) [fJ,oL];refine oI λQ0 hQ0=> ?_;refine dH (λi:Nat=>⟨[(0,.sl .plain nl l.length (pS l)),(1,.fn 361 [] [])],[(7,i64 l.length),(8,i64 i)],[]⟩) (λi=>l.length-i) (λi=>i<=l.length∧∀j (hj:j<i) (hl:j<l.length),okE l[j]=true) 0 (by simp) (by simp) λi hi=> ?_;obtain⟨hi,hj⟩:=hi;refine oI λQ1 hQ1=> ?_;by_cases c:i<l.length
 ·have sa:=h _ (List.getElem_mem c);have xa:=yO h c;have la:=Bq sa;have l1:30<=l.length*30-i*30:=by omega
  have l2:i*30<=l.length*30:=by omega
  have hc:(i:Int)<l.length:=by omega
  have p1:=z0x (nc:=none) (nm:=none) (ng:=none) sa;have p2:=RW (nc:=none) (nm:=none) (ng:=none) sa;have f3:au (qf none none none l[i])=true:=(bE _).2 λc hc=>(w7 none none none l[i] c hc).1;have tX:(qf none none none l[i]).take 30=qf none none none l[i]:=List.take_of_length_le (by omega);cases b:okE l[i] with
  |false=>
   have hz:=z77 c b λj hji=>hj j hji (by omega);rw[b] at p2;rw[hz] at hQf;generalize l[i]=x at*
   simp(maxSteps:=999999) (disch:=first|omega|simp<;>omega|rfl) [fJ,pj,pQ,kT,kF,dT,dF,hc,xa,la,l1,l2,ea,h361,p1,p2,f3,tX,hQ1,hQ0,<-hQf,oL];skip
  |true=>
   rw[b] at p2;have hn:∀j (hj:j<i+1) (hl:j<l.length),okE l[j]=true:=λj hji hjl=>by
    by_cases e:j=i
    ·subst e;exact b
    exact hj j (by omega) hjl
   generalize l[i]=x at*
   simp(maxSteps:=999999) (disch:=first|omega|simp<;>omega|rfl) [fJ,pj,pQ,kT,kF,dT,dF,hc,xa,la,l1,l2,ea,h361,p1,p2,f3,tX,hQ1];exact⟨i+1,by omega,⟨by omega,hn⟩,by omega⟩
 obtain rfl:i=l.length:=by omega
 have hz:=X0 λj hjl=>hj j hjl hjl;rw[hz] at hQf;simp(maxSteps:=999999) (disch:=first|omega|simp<;>omega|rfl) [fJ,pj,qW,kT,kF,dT,dF,hQ1,hQ0,<-hQf,oL];skip
theorem z7I(E:Env)(h373:E.G 373=Ox):∀ds,Qt.pre ds->ds.length=oQ.n∧awp E oQ.body (qH oQ.res (Qt.post ds)) (fP oQ.wr ds):=by rintro _ ⟨nl,l,h,hl,rfl⟩;rw[Ot h,<-Zc];have p1:=z3i (nl:=nl) h hl;have p2:=Pa (nl:=nl) h;unfold qn at p1 p2⊢;simp(maxSteps:=999999) (disch:=first|omega|simp<;>omega|rfl) [fJ,oQ,h373,p1,p2];exact⟨λv hv=>by simp at hv,λv hv=>by simp at hv⟩
def IA(root:List UInt8)(size:Int)(p:Io):Nat:=
 if p.ents.length=0∨p.from'<0∨size<p.ents.length∨size-p.ents.length<p.from'∨65536<size∨p.prs.length≠2∨TD p.ents=false then 1
 else if(p.prs.getD 0 []).length≠oN p.from'.toNat then 1
 else if vpN (Fa (sx p.from'.toNat (p.prs.getD 0 []) (oO p.ents))) root (p.from'.toNat+p.ents.length:Nat) size (p.prs.getD 1 [])=true then 0 else 8
structure KD (p:Io):Prop where
 f:aO p.from'
 e:Bh p.ents
 n:p.ents.length<=1000
 r:∀l∈p.prs,qm l∧l.length<=1000
 k:p.prs.length<=1000
theorem KD.pie{p:Io}(h:KD p):z6I p:=⟨h.f,h.e,h.n,λl hl=>⟨(h.r l hl).1,Nat.le_trans (h.r l hl).2 (by decide)⟩,h.k⟩
def QC:aW:=⟨λds=>∃(root:List UInt8) (size:Int) (np:Option Bool) (p:Io),root.length=16∧aO size∧KD p∧ds=[.agg (bys root),i64 size,EB np p],
 λds=>i64 (IA (gBs (gCs (nth ds 0))) (asI (nth ds 1)) (WQ (nth ds 2)):Int)⟩
theorem Y3{root:List UInt8}{size:Int}{np:Option Bool}{p:Io}(hr:root.length=16)(hs:aO size)(h:KD p):QC.pre [.agg (bys root),i64 size,EB np p]=True:=eq_true ⟨root,size,np,p,hr,hs,h,rfl⟩
theorem OK{root:List UInt8}{size:Int}{np:Option Bool}{p:Io}(h:KD p):QC.post [.agg (bys root),i64 size,EB np p]=i64 (IA root size p:Int):=by show i64 (IA (gBs (bys root)) size (WQ (EB np p)):Int)=_;rw[dK,z6p h.pie]
theorem z3D(E:Env)(h354:E.G 354=S2)(h185:E.G 185=Mf)(h176:E.G 176=RX)(h362:E.G 362=Qt):∀ds,QC.pre ds->ds.length=o8.n∧awp E o8.body (qH o8.res (QC.post ds)) (fP o8.wr ds):=by
 rintro _ ⟨root,size,np,p,hr,hs,h,rfl⟩;rw[OK h];obtain⟨fr,es,prs⟩:=p;have hn:=h.n;have hf:=h.f;have hk:=h.k;simp only at hn hf hk;have hea:=sd h.e;simp only at hea;unfold EB qn;simp only;obtain⟨f1,f2⟩:=hf;obtain⟨s1,s2⟩:=hs;by_cases c1:es.length=0
 ·have hz:IA root size ⟨fr,es,prs⟩=1:=by rw[IA,if_pos (.inl c1)]
  rw[hz];simp(maxSteps:=999999) (disch:=first|omega|simp<;>omega|rfl) [fJ,oG,oF,o8,kT,kF,dT,dF,c1,hr,oJ]
 have b0:((es.length:Int)==0)=false:=beq_false_of_ne (by omega);by_cases c2:fr<0
 ·have hz:IA root size ⟨fr,es,prs⟩=1:=by rw[IA,if_pos (by simp only;omega)]
  rw[hz];simp(maxSteps:=999999) (disch:=first|omega|simp<;>omega|rfl) [fJ,oG,oF,o8,kT,kF,dT,dF,b0,c2,hr,oJ];skip
 by_cases c3:size<es.length
 ·have hz:IA root size ⟨fr,es,prs⟩=1:=by rw[IA,if_pos (by simp only;omega)]
  rw[hz];simp(maxSteps:=999999) (disch:=first|omega|simp<;>omega|rfl) [fJ,oG,oF,o8,kT,kF,dT,dF,b0,c2,c3,hr,oJ];skip
 by_cases c4:size-es.length<fr
 ·have hz:IA root size ⟨fr,es,prs⟩=1:=by rw[IA,if_pos (by simp only;omega)]
  rw[hz];simp(maxSteps:=999999) (disch:=first|omega|simp<;>omega|rfl) [fJ,oG,oF,o8,kT,kF,dT,dF,b0,c2,c3,c4,hr,oJ];skip
 by_cases c5:65536<size
 ·have hz:IA root size ⟨fr,es,prs⟩=1:=by rw[IA,if_pos (by simp only;omega)]
  rw[hz];simp(maxSteps:=999999) (disch:=first|omega|simp<;>omega|rfl) [fJ,oG,oF,o8,kT,kF,dT,dF,b0,c2,c3,c4,c5,hr,oJ];skip
 by_cases c6:prs.length≠2
 ·have hz:IA root size ⟨fr,es,prs⟩=1:=by rw[IA,if_pos (by simp only;omega)]
  rw[hz];have b6:((prs.length:Int) !=2)=true:=by rw[bne,beq_false_of_ne (by omega)];rfl
  simp(maxSteps:=999999) (disch:=first|omega|simp<;>omega|rfl) [fJ,oG,oF,o8,kT,kF,dT,dF,b0,c2,c3,c4,c5,b6,hr,oJ];skip
 obtain⟨P0,P1,rfl⟩:∃P0 P1,prs=[P0,P1]:=by
  match prs,c6 with
  |[a,b],_=>exact⟨a,b,rfl⟩
  |[],c=>simp at c
  |[_],c=>simp at c
  |_::_::_::_,c=>simp at c
 have o1:=Xq (nl:=none) h.e hn;have o2:=Ot (nl:=none) h.e;simp only[qn] at o1 o2;have k0:∀f:Nat,aG [] (λ_=>none) (.fn f [] []):=λf=>⟨λv hv=>by simp at hv,λv hv=>by simp at hv⟩;cases b7:TD es with
 |false=>
  have hz:IA root size ⟨fr,es,[P0,P1]⟩=1:=by rw[IA,if_pos (by simp only[b7,or_true])]
  rw[b7] at o2;rw[hz];simp(maxSteps:=999999) (disch:=first|omega|simp<;>omega|rfl) [fJ,oG,oF,o8,kT,kF,dT,dF,b0,c2,c3,c4,c5,hr,oJ,h362,o1,o2,k0]
 |true=>
  rw[b7] at o2;obtain⟨n,rfl⟩:∃n:Nat,fr=n:=⟨fr.toNat,by omega⟩;obtain⟨h0,l0⟩:=h.r P0 (by simp);obtain⟨h1,l1⟩:=h.r P1 (by simp);have a1:=Y0 (s:=n) (ne:=none) (es:=es) h0 (by omega) h.e (show 1<=es.length by omega) hn (by omega);have a2:=JX (s:=n) (ne:=none) h0 h.e;have hn7:¬(es.length=0∨(n:Int)<0∨size<es.length∨size-es.length<n∨65536<size∨([P0,P1]:List (List (List UInt8))).length≠2∨TD es=false):=by
   rintro(h|h|h|h|h|h|h)
   ·omega
   ·omega
   ·omega
   ·omega
   ·omega
   ·exact h rfl
   rw[b7] at h;cases h
  have hz0:IA root size ⟨n,es,[P0,P1]⟩=if P0.length≠oN n then 1 else if vpN (Fa (sx n P0 (oO es))) root (n+es.length:Nat) size P1=true then 0 else 8:=by rw[IA,if_neg hn7];rfl
  simp only[pkA,ur,qn] at a1 a2;by_cases c8:P0.length=oN n
  ·rw[z4v,if_pos c8,z4r] at a2;rw[hz0,if_neg (by simpa using c8)];have dl:(oO es).length=es.length:=List.length_map _;have q16:qm (sx n P0 (oO es)):=Dg h0;have ql:=yM (oO es) c8;rw[dl] at ql;have qb:=CI (n+es.length);have qp:0<(sx n P0 (oO es)).length:=by rw[ql];exact Fx (by omega)
   have t1:=LX (n:=((n+es.length:Nat):Int)) (nl:=none) ⟨by omega,by omega⟩ q16 (by omega) rfl rfl;have t2:=Ef (n:=((n+es.length:Nat):Int)) (m:= .plain) (nl:=none) q16 rfl rfl;have t3:=IB (n:=((n+es.length:Nat):Int)) (by omega) (by omega) (show(sx n P0 (oO es)).length=oN (((n+es.length:Nat):Int)).toNat by rw[ql];rfl);rw[t3] at t2;have tl:(Fa (sx n P0 (oO es))).length=16:=vC q16 qp _;have v1:=Sj (m:=((n+es.length:Nat):Int)) (n:=size) (nl:=none) tl hr (by omega) h1 l1;have v2:=GQ (old:=Fa (sx n P0 (oO es))) (root:=root) (m:=((n+es.length:Nat):Int)) (n:=size) (nl:=none) h1;simp only[pkA,ur] at a2 t1 t2;generalize hV:vpN (Fa (sx n P0 (oO es))) root ((n+es.length:Nat):Int) size P1=V at*
   rw[show((n+es.length:Nat):Int)=(n:Int)+(es.length:Int) from rfl] at a2 t1 t2 v1 v2;clear t3;generalize Fa (sx n P0 (oO es))=T at*
   generalize sx n P0 (oO es)=A at*
   simp(maxSteps:=999999) (disch:=first|omega|simp<;>omega|rfl) [fJ,oG,oF,o8,vP,kT,kF,dT,dF,b0,c2,c3,c4,c5,hr,oJ,h362,o1,o2,k0,Hv,ur,h354,a1,a2,zn,zb];cases V with
   |false=>simp(maxSteps:=999999) (disch:=first|omega|simp<;>omega|rfl) [fJ,oG,oF,vO,kT,kF,dT,dF,h185,t1,t2,tl,hr,oM,oJ,h176,v1,v2,zn,zb,o8];skip
   |true=>simp(maxSteps:=999999) (disch:=first|omega|simp<;>omega|rfl) [fJ,oG,oF,vO,A9,kT,kF,dT,dF,h185,t1,t2,tl,hr,oM,oJ,h176,v1,v2,zn,zb,o8];skip
  rw[z4v,if_neg c8] at a2;rw[hz0,if_pos c8];simp only[pkA,ur] at a2;simp(maxSteps:=999999) (disch:=first|omega|simp<;>omega|rfl) [fJ,oG,oF,o8,vP,kT,kF,dT,dF,b0,c2,c3,c4,c5,hr,oJ,h362,o1,o2,k0,Hv,ur,h354,a1,a2,zn,zb]
structure z57 (root:List UInt8) (size:Nat) (p:Io) (n:Nat) (P0 P1:List (List UInt8)):Prop where
 f:p.from'=n
 r:p.prs=[P0,P1]
 n1:1<=p.ents.length
 s1:n+p.ents.length<=size
 s2:size<=65536
 v:TD p.ents=true
 o:P0.length=oN n
 t:vpN (Fa (sx n P0 (oO p.ents))) root (n+p.ents.length:Nat) size P1=true
theorem ZG{root:List UInt8}{size:Int}{p:Io}(h:IA root size p=0):∃(n s:Nat) (P0 P1:List (List UInt8)),size=s∧z57 root s p n P0 P1:=by
 obtain⟨fr,es,prs⟩:=p;rw[IA] at h;split at h
 ·cases h
 rename_i c;simp only[not_or] at c;obtain⟨c1,c2,c3,c4,c5,c6,c7⟩:=c;obtain⟨P0,P1,rfl⟩:∃P0 P1,prs=[P0,P1]:=by
  match prs,c6 with
  |[a,b],_=>exact⟨a,b,rfl⟩
  |[],c=>simp at c
  |[_],c=>simp at c
  |_::_::_::_,c=>simp at c
 split at h
 ·cases h
 rename_i d;split at h
 ·rename_i e;have hs:size=(size.toNat:Int):=by omega
  refine⟨fr.toNat,size.toNat,P0,P1,hs,⟨by simp only;omega,rfl,by simp only;omega,by simp only;omega,by omega,by simpa using c7,by simpa using d,?_⟩⟩;rw[<-hs];exact e
 cases h
def OX:aW:=⟨λds=>∃(root:List UInt8) (size:Nat) (np:Option Bool) (p:Io) (n:Nat) (P0 P1:List (List UInt8)),root.length=16∧KD p∧z57 root size p n P0 P1∧ds=[.agg (bys root),i64 size,EB np p],λ_=>i64 0⟩
theorem Zy{root:List UInt8}{size:Nat}{np:Option Bool}{p:Io}{n:Nat}{P0 P1:List (List UInt8)}(hr:root.length=16)(h:KD p)(ha:z57 root size p n P0 P1):OX.pre [.agg (bys root),i64 size,EB np p]=True:=eq_true ⟨root,size,np,p,n,P0,P1,hr,h,ha,rfl⟩
@[simp] theorem Uy(ds:List oH):OX.post ds=i64 0:=rfl
theorem z8z{l:List pm}(h:TD l=true){i:Nat}(hi:i<l.length):okE l[i]=true:=List.all_eq_true.1 h _ (List.getElem_mem hi)
theorem XP(E:Env)(h213:E.G 213=Mf)(h206:E.G 206=RX){root:List UInt8}{size n:Nat}{np:Option Bool}{es:List pm}{P0 P1:List (List UInt8)}{Z:oH}
  (hr:root.length=16) (h1:qm P1) (l1:P1.length<=1000) (n1:1<=es.length) (s1:n+es.length<=size) (s2:size<=65536) (ho:P0.length=oN n) (h0:qm P0) (t:vpN (Fa (sx n P0 (oO es))) root (n+es.length:Nat) size P1=true):
  awp E sn (qH [gR.t 6] (i64 0)) ⟨[(0,.agg (bys root)),(1,i64 size),(2,Z)],[(3,.bp 3 0),(5,.bp 5 0),(7,i64 es.length),(11,.bp 11 0)],[(3,some (bys root)),(5,some [i64 n,.sl .plain none es.length (pS es),.sl .plain np 2 [.sl .plain none P0.length (bys (dgs P0)),.sl .plain none P1.length (bys (dgs P1))]]),(11,some [i64 (n+es.length:Nat),.sl .plain none (sx n P0 (oO es)).length (bys (dgs (sx n P0 (oO es))))])]⟩:=by
 have dl:(oO es).length=es.length:=List.length_map _;have q16:qm (sx n P0 (oO es)):=Dg h0;have ql:=yM (oO es) ho;rw[dl] at ql;have qb:=CI (n+es.length);have qp:0<(sx n P0 (oO es)).length:=by rw[ql];exact Fx (by omega)
 have t1:=LX (n:=((n+es.length:Nat):Int)) (nl:=none) ⟨by omega,by omega⟩ q16 (by omega) rfl rfl;have t2:=Ef (n:=((n+es.length:Nat):Int)) (m:= .plain) (nl:=none) q16 rfl rfl;have t3:=IB (n:=((n+es.length:Nat):Int)) (by omega) (by omega) (show(sx n P0 (oO es)).length=oN (((n+es.length:Nat):Int)).toNat by rw[ql];rfl);rw[t3] at t2;have tl:(Fa (sx n P0 (oO es))).length=16:=vC q16 qp _;have v1:=Sj (m:=((n+es.length:Nat):Int)) (n:=(size:Int)) (nl:=none) tl hr (by omega) h1 l1;have v2:=GQ (old:=Fa (sx n P0 (oO es))) (root:=root) (m:=((n+es.length:Nat):Int)) (n:=(size:Int)) (nl:=none) h1;rw[t] at v2;simp only[pkA,ur] at t1 t2;rw[show((n+es.length:Nat):Int)=(n:Int)+(es.length:Int) from rfl] at t1 t2 v1 v2;clear t3 t;generalize Fa (sx n P0 (oO es))=T at*
 generalize sx n P0 (oO es)=A at*
 simp(maxSteps:=999999) (disch:=first|omega|simp<;>omega|rfl) [fJ,oG,oF,sn,uC,kT,kF,dT,dF,h213,t1,t2,tl,hr,oM,oJ,h206,v1,v2,zn,zb,pH];skip
theorem z3j(E:Env)(h212:E.G 212=Ub)(h213:E.G 213=Mf)(h206:E.G 206=RX)(h382:E.G 382=z8j){root:List UInt8}{size n:Nat}{np:Option Bool}{es:List pm}{P0 P1:List (List UInt8)}{Z:oH}
  (hr:root.length=16) (h1:qm P1) (l1:P1.length<=1000) (n1:1<=es.length) (n2:es.length<=1000) (he:Bh es) (s1:n+es.length<=size) (s2:size<=65536) (ho:P0.length=oN n) (h0:qm P0) (t:vpN (Fa (sx n P0 (oO es))) root (n+es.length:Nat) size P1=true):
  awp E sk (qH [gR.t 6] (i64 0)) ⟨[(0,.agg (bys root)),(1,i64 size),(2,Z)],[(3,.bp 3 0),(5,.bp 5 0),(7,i64 es.length)],[(3,some (bys root)),(5,some [i64 n,.sl .plain none es.length (pS es),.sl .plain np 2 [.sl .plain none P0.length (bys (dgs P0)),.sl .plain none P1.length (bys (dgs P1))]])]⟩:=by
 have d1:=z2u (nl:=none) he n2;have d2:=RK (nl:=none) he;simp only[qn,Pr] at d1 d2;have dl:(oO es).length=es.length:=List.length_map _;have d16:=Mv es;have ddl:=qL d16;unfold sk;simp(maxSteps:=999999) (disch:=first|omega|simp<;>omega|rfl) [fJ,oG,oF,kT,kF,dT,dF,h382,d1,d2,zn,zb];obtain⟨X,hX⟩:∃X:List oH,X=[i64 n,.sl .plain none es.length (pS es),.sl .plain np 2 [.sl .plain none P0.length (bys (dgs P0)),.sl .plain none P1.length (bys (dgs P1))]]:=⟨_,rfl⟩;rw[<-hX];refine oI λQ0 hQ0=> ?_;refine dH (λi:Nat=>⟨[(0,.agg (bys root)),(1,i64 size),(2,Z)],[(3,.bp 3 0),(5,.bp 5 0),(7,i64 es.length),(10,.sl (.own 16) none es.length (bys (dgs (oO es)))),(11,.bp 11 0),(12,i64 i)],[(3,some (bys root)),(5,some X),(11,some [i64 (n+i:Nat),.sl .plain none (sx n P0 ((oO es).take i)).length (bys (dgs (sx n P0 ((oO es).take i))))])]⟩) (λi=>es.length-i) (λi=>i<=es.length) 0 (by simp[sx,dl]) (Nat.zero_le _) λi hi=> ?_;have q16:qm (sx n P0 ((oO es).take i)):=Dg h0;have ql:=yM ((oO es).take i) ho;rw[List.length_take,dl,Nat.min_eq_left hi] at ql;have qb:=CI (n+i);refine oI λQ1 hQ1=> ?_;by_cases c:i<es.length
 ·have hc:(i:Int)<es.length:=by omega
  have hat:=zW d16 (show i<(oO es).length by omega);have hal:=sG d16 (show i<(oO es).length by omega);have tk:=oM hal;have a1:=z9i (n:=((n+i:Nat):Int)) (nl:=none) (d:=ul (oO es) i) ⟨by omega,by omega⟩ q16 (by omega) hal rfl rfl;have a2:=VD (s:=n+i) (d:=ul (oO es) i) q16 ql (by omega);have hsn:sx n P0 ((oO es).take (i+1))=xF (sx n P0 ((oO es).take i)) (ul (oO es) i) (t1N (n+i)):=by
   have e:(oO es).take (i+1)=(oO es).take i++[ul (oO es) i]:=by rw[<-List.take_append_getElem (show i<(oO es).length by omega)];simp[ul,List.getD,List.getElem?_eq_getElem (show i<(oO es).length by omega)]
   rw[e,OT,List.length_take,dl,Nat.min_eq_left hi]
  rw[show((n+i:Nat):Int)=(n:Int)+(i:Int) from rfl] at a1 a2;have l2:i*16+16<=es.length*16:=by omega
  generalize xF (sx n P0 ((oO es).take i)) (ul (oO es) i) (t1N (n+i))=B at*
  generalize sx n P0 ((oO es).take i)=A at*
  generalize ul (oO es) i=D at*
  simp(maxSteps:=999999) (disch:=first|omega|simp<;>omega|rfl) [fJ,oG,oF,si,uB,kT,kF,dT,dF,hc,hat,hal,tk,ddl,dl,h212,a1,a2,zn,zb];refine⟨by omega,by rw[hX];simp,?_⟩;rw[hQ1];exact⟨i+1,by omega,by omega,by rw[hsn];rfl⟩
 obtain rfl:i=es.length:=by omega
 have e:(oO es).take es.length=oO es:=List.take_of_length_le (by omega);simp(maxSteps:=999999) (disch:=first|omega|simp<;>omega|rfl) [fJ,oG,oF,si,kT,kF,dT,dF];rw[hQ1];show Q0 (.exit 2) _;rw[hQ0,e,hX];exact XP E h213 h206 hr h1 l1 n1 s1 s2 ho h0 t
theorem z0D(E:Env)(h331:E.G 331=PQ)(h212:E.G 212=Ub)(h213:E.G 213=Mf)(h206:E.G 206=RX)(h382:E.G 382=z8j):∀ds,OX.pre ds->ds.length=pH.n∧awp E pH.body (qH pH.res (OX.post ds)) (fP pH.wr ds):=by
 rintro _ ⟨root,size,np,p,n,P0,P1,hr,h,ha,rfl⟩;rw[Uy];obtain⟨fr,es,prs⟩:=p;obtain⟨f,r,n1,s1,s2,v,o,t⟩:=ha;simp only at f r n1 s1 v t;subst f r;have he:=h.e;have n2:=h.n;simp only at he n2;obtain⟨h0,l0⟩:=h.r P0 (by simp);obtain⟨h1,l1⟩:=h.r P1 (by simp);have hea:=sd he;unfold EB qn;simp only;have b0:((es.length:Int)==0)=false:=beq_false_of_ne (by omega);simp(maxSteps:=999999) (disch:=first|omega|simp<;>omega|rfl) [fJ,oG,oF,pH,uA,kT,kF,dT,dF,b0,hr,oJ,Hv,ur];obtain⟨X,hX⟩:∃X:List oH,X=[i64 n,.sl .plain none es.length (pS es),.sl .plain np 2 [.sl .plain none P0.length (bys (dgs P0)),.sl .plain none P1.length (bys (dgs P1))]]:=⟨_,rfl⟩;rw[<-hX];refine oI λQ0 hQ0=> ?_;refine dH (λi:Nat=>⟨[(0,.agg (bys root)),(1,i64 size),(2,.agg X)],[(3,.bp 3 0),(5,.bp 5 0),(7,i64 es.length),(8,i64 i)],[(3,some (bys root)),(5,some X)]⟩) (λi=>es.length-i) (λi=>i<=es.length) 0 (by simp) (Nat.zero_le _) λi hi=> ?_;refine oI λQ1 hQ1=> ?_;by_cases c:i<es.length
 ·have sa:=he _ (List.getElem_mem c);have ok:=z8z v c;have xa:=yO he c;have la:=Bq sa;have l1:30<=es.length*30-i*30:=by omega
  have l2:i*30<=es.length*30:=by omega
  have hc:(i:Int)<es.length:=by omega
  have p1:=Md (nc:=none) (nm:=none) (ng:=none) sa;have p2:=Gd (nc:=none) (nm:=none) (ng:=none) sa;have f3:au (qf none none none es[i])=true:=(bE _).2 λc hc=>(w7 none none none es[i] c hc).1;have tX:(qf none none none es[i]).take 30=qf none none none es[i]:=List.take_of_length_le (by omega);rw[ok] at p2;generalize es[i]=x at*
  simp(maxSteps:=999999) (disch:=first|omega|simp<;>omega|rfl) [fJ,sm,uz,kT,kF,dT,dF,hc,hX,xa,la,l1,l2,hea,h331,p1,p2,f3,tX,hQ1];exact⟨i+1,by omega,by omega,by omega⟩
 obtain rfl:i=es.length:=by omega
 simp(maxSteps:=999999) (disch:=first|omega|simp<;>omega|rfl) [fJ,oG,oF,sm,kT,kF,dT,dF];rw[hQ1];show Q0 (.exit 0) _;rw[hQ0];subst hX;exact z3j (np:=np) E h212 h213 h206 h382 hr h1 l1 n1 n2 he s1 s2 o h0 t
theorem Xz{l:List pm}(h:1<=l.length)(h2:l.length<=4294967296):Kr ⟨0,[],l⟩=root (oO l):=by
 have dl:(oO l).length=l.length:=List.length_map _;have hp:l.length<2^l.length:=Nat.lt_two_pow_self;have e:sx 0 [] (oO l)=Cj l.length (oO l):=by have:=RD l.length (oO l) [] (by simpa[dl] using hp);rwa[LI,List.length_nil,List.nil_append] at this
 have hl:(sx 0 [] (oO l)).length=oN l.length:=by have:=yM (oO l) (q:=[]) (n:=0) (by rw[vk];rfl);rwa[dl,Nat.zero_add] at this
 have hs:(lf.len ⟨0,[],l⟩:Nat)=l.length:=Nat.zero_add _;rw[Kr,hs,IB (by omega) (by omega) (by rw[hl];rfl)];show Fa (sx 0 [] (oO l))=_;rw[e,Fa,MQ l.length (oO l) (by rw[dl];exact hp) (by omega)]
def TE(es pe:List pm)(fr n:Nat)(P0 P1:List (List UInt8)):List (List UInt8):=
 (es.map λx=>mY 8 [tL x])++tK (oO es)++tK ((oO es).take n)++piI fr es.length pe P0 P1
theorem z9g{es:List pm}{p:Io}{fr:Nat}{P0 P1:List (List UInt8)}(hs:Bh es)(hb:∀x∈es++p.ents,(tL x).length<1099511627776)(h:KD p)(ha:z57 (Kr ⟨0,[],es⟩) es.length p fr P0 P1)
  (hne:DX p.ents ((es.drop fr).take p.ents.length)=false):(qS ([],false) (TE es p.ents fr (fr+p.ents.length) P0 P1)).2=true:=by
 cases hc:(qS ([],false) (TE es p.ents fr (fr+p.ents.length) P0 P1)).2 with
 |true=>rfl
 |false=>
  have hf:=UW (TE es p.ents fr (fr+p.ents.length) P0 P1) ([],false) (λ_ u hu=>by cases hu) hc;rw[List.nil_append] at hf;have n1:=ha.n1;have s1:=ha.s1;have hr:=ha.r;have i1:qm P0:=(h.r P0 (by rw[hr];simp)).1;have i2:qm P1:=(h.r P1 (by rw[hr];simp)).1;have hv:=ha.t;rw[Xz (by omega) (by have:=ha.s2;omega)] at hv;have m1:∀i∈tK (oO es),i∈TE es p.ents fr (fr+p.ents.length) P0 P1:=λi hi=>by simp[TE,hi]
  have m2:∀i∈tK ((oO es).take (fr+p.ents.length)),i∈TE es p.ents fr (fr+p.ents.length) P0 P1:=λi hi=>by simp[TE,hi]
  have m3:∀i∈piI fr es.length p.ents P0 P1,i∈TE es p.ents fr (fr+p.ents.length) P0 P1:=λi hi=>by simp[TE,hi]
  obtain⟨a1,a2⟩:=WY p.ents fr P0;have e:=UY hf hs h.e hb i1 i2 ha.o rfl (by omega) s1 hv (λi hi=>m1 i ((Cu _ _ rfl).2 i hi)) (λi hi=>m2 i ((Cu _ _ rfl).2 i hi))
   (λi hi=>m3 i (by simp only[piI,List.mem_append];exact .inl (.inl (a2 i hi)))) (λi hi=>m3 i (by simp only[piI,List.mem_append,List.mem_reverse];exact .inl (.inr hi)))
   (λi hi=>m3 i (by simp only[piI,List.mem_append];exact .inr hi)) (λx hx=>by simp only[TE,List.mem_append];exact .inl (.inl (.inl (List.mem_map.2 ⟨x,hx,rfl⟩))))
   (λx hx=>m3 _ (by simp only[piI,List.mem_append];exact .inl (.inl (a1 x hx))))
  have:=(GZ p.ents ((es.drop fr).take p.ents.length)).2 e;rw[this] at hne;cases hne
end Go.Abs