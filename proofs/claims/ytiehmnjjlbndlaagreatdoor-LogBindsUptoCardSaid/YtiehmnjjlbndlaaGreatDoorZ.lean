/- Lemmas. -/
import Derived.Test.YtiehmnjjlbndlaaGreatDoorX
set_option linter.all false
namespace Go.Abs
set_option maxRecDepth 100000
def tG:av:=
 Yd 22 (Yy [1,3,4,5]) (YY [1,3])
def wm:av:=
 Yq (.block 1 (.region [1,3,4,5] [.norm [1]] [YM 25 3,Ym 26 4,Ym 27 5,Yi 28 1 26 27,Yj 29 28,Yk 30 30 29,YN 31 1 1 25 30,YM 3 31])) (Yu [1,3,4,5] [Ym 23 5,YB 24 .add 23 1,Ym 5 24])
def tr:av:=
 Yq (Yr [1,3,4,5,22] [Ym 19 5,Ym 20 4,Yn 21 20,Yb 22 .lss 19 21] tG) wm
def CJ:av:=
 .block 0 (.loop tr)
def wH:av:=
 YR [2] [.norm [1]] [YM 37 3,Yf 38 7 1,Yl 39 1 38,Yk 40 40 39,YN 41 1 1 37 40,YM 2 41] .ret
def wk:av:=
 YR [1,3] [.norm [1]] [YM 32 3,Yf 33 6 1,Yl 34 1 33,Yk 35 29 34,YN 36 1 1 32 35,YM 3 36] wH
def vU:av:=
 Yq (Yr [1,3,4,5] [Yc 5 0] CJ) wk
def wv:av:=
 YR [1,3,4] [.norm [1]] [Yf 6 0 1,Yl 7 1 6,Yf 8 1 1,Yl 9 1 8,Yf 10 2 1,Yl 11 1 10,Yf 12 3 1,Yl 13 1 12,Yf 14 4 1,Yl 15 1 14,Yf 16 5 1,Yl 17 1 16,Yo 18 (.buildSl 1 6 [i64 0,i64 0,i64 0,i64 0,i64 0,i64 0] [(0,1,.s 7),(1,1,.s 9),(2,1,.s 11),(3,1,.s 13),(4,1,.s 15),(5,1,.s 17)]),YM 4 18] vU
def wx:av:=
 Yr [1,3] [Yv 3 1] wv
def qk:nH:=
 {n:=1,wr:=[],res:=[.t 2],body:=YR [1] [.norm [1]] [Yx 1 1 8 0,Yv 2 1] wx}
def px:av:=
 YR [4] [.norm [2,3]] [Yf 5 0 2,Yl 6 2 5,Yf 7 0 3,Yl 8 3 7,Yb 9 .eql 6 8,Ym 10 9,YG 10 (Yf 11 1 2),YG 10 (Yl 12 2 11),YG 10 (Yf 13 1 3),YG 10 (Yl 14 3 13),YG 10 (Yb 15 .eql 12 14),Yp 16 10 15,Ym 17 16,YG 17 (Yf 18 2 2),YG 17 (Yl 19 2 18),YG 17 (Yf 20 2 3),YG 17 (Yl 21 3 20),YG 17 (Yb 22 .eql 19 21),Yp 23 17 22,Ym 24 23,YG 24 (Yf 25 3 2),YG 24 (Yl 26 2 25),YG 24 (Yf 27 3 3),YG 24 (Yl 28 3 27),YG 24 (Yb 29 .eql 26 28),Yp 30 24 29,Ym 31 30,YG 31 (Yf 32 4 2),YG 31 (Yl 33 2 32),YG 31 (Yf 34 4 3),YG 31 (Yl 35 3 34),YG 31 (Yb 36 .eql 33 35),Yp 37 31 36,Ym 38 37,YG 38 (Yf 39 5 2),YG 38 (Yl 40 2 39),YG 38 (Yf 41 5 3),YG 38 (Yl 42 3 41),YG 38 (Yb 43 .eql 40 42),Yp 44 38 43,Ym 45 44,YG 45 (Yf 46 6 2),YG 45 (Yl 47 2 46),YG 45 (Yf 48 6 3),YG 45 (Yl 49 3 48),YG 45 (Yb 50 .eql 47 49),Yp 51 45 50,Ym 52 51,YG 52 (Yf 53 7 2),YG 52 (Yl 54 2 53),YG 52 (Yf 55 7 3),YG 52 (Yl 56 3 55),YG 52 (YK 57 54 54 56),Yp 58 52 57,Ym 4 58] .ret
def qR:nH:=
 {n:=2,wr:=[],res:=[.t 4],body:=YR [2,3] [.norm [2,3]] [Yx 2 2 8 0,Yx 3 3 8 1,Yw 4 false] px}
@[simp] theorem z5ea(c:Cmd)(nl:Option Bool):(yP c nl).length=8:=rfl
theorem UA{c:Cmd}(h:c.ok):∀x∈[c.kind,c.key,c.other,c.type,c.uses,c.life],aO x:=by obtain⟨h1,h2,h3,h4,h5,h6,_⟩:=h;intro x hx;simp only[List.mem_cons,List.not_mem_nil,or_false] at hx;rcases hx with rfl|rfl|rfl|rfl|rfl|rfl<;>assumption
set_option maxHeartbeats 4000000 in
theorem z0J(E:Env)(h7:E.G 7=Dy)(h12:E.G 12=gx)(h39:E.G 39=xu)(h129:E.G 129=uS):∀ds,Hh.pre ds->ds.length=sc.n∧awp E sc.body (qH sc.res (Hh.post ds)) (fP sc.wr ds):=by
 rintro _ ⟨c,nl,hc,rfl⟩;rw[F6];obtain⟨k1,k2,k3,k4,k5,k6,dt,ls⟩:=c;obtain⟨ho,hd,hll⟩:=hc;simp only at hd hll;simp(maxSteps:=999999) (disch:=first|omega|simp<;>omega|rfl) [fJ,oG,oF,sc,AY,AS,yP];refine oI λQ0 hQ0=> ?_;simp(maxSteps:=999999) (disch:=first|omega|simp<;>omega|rfl) [fJ,oG,oF,AZ];have h6:=UA ho;obtain⟨L,hL⟩:∃L:List Int,L=[k1,k2,k3,k4,k5,k6]:=⟨_,rfl⟩;have hLl:L.length=6:=by rw[hL];rfl
 rw[show [i64 k1,i64 k2,i64 k3,i64 k4,i64 k5,i64 k6]=rD L by rw[hL];rfl];rw[<-hL] at h6;refine dH (λi:Nat=>⟨[(0,.agg [i64 k1,i64 k2,i64 k3,i64 k4,i64 k5,i64 k6,st dt,.sl .plain nl ls.length (rD ls)])],[(1,.bp 1 0),(3,.sl (.own 1) none ((L.take i).flatMap eU).length (bys ((L.take i).flatMap eU))),(18,.agg (rD L)),(19,i64 i)],[(1,some [i64 k1,i64 k2,i64 k3,i64 k4,i64 k5,i64 k6,st dt,.sl .plain nl ls.length (rD ls)])]⟩) (λi=>6-i) (· <=6) 0 (by simp) (by simp) λi hi=> ?_;refine oI λQ1 hQ1=> ?_;by_cases h1:i<6
 ·have h1':i<L.length:=by omega
  have hs:=rz L eU 0 h1';rw[show L.getD i 0=atI L i from rfl] at hs;have ha:=h6 _ (Hy h1');have g2:=rJ ha;have g3:=pM (l:=L.take i) λx hx=>h6 x (List.mem_of_mem_take hx);have g4:(L.take i).length<=6:=by rw[List.length_take];omega
  generalize hF:(L.take i).flatMap eU=F at*
  generalize hX:atI L i=x at*
  have hg:∀h:i<(rD L).length,(rD L)[i]=i64 x:=λh=>by rw[<-hX];simp[rD,atI,List.getD,List.getElem?_eq_getElem h1']
  simp(maxSteps:=999999) (disch:=first|omega|simp<;>omega|rfl) [fJ,oG,oF,vQ,vT,AK,AU,kT,kF,dT,dF,h1,hg,hLl,h12,LW ha.1 ha.2,hQ1,-List.length_flatMap];exact⟨⟨by omega,by omega⟩,by omega,i+1,by omega,by omega,⟨by rw[hs,List.length_append],hs.symm⟩,by omega⟩
 obtain rfl:i=6:=by omega
 have hT:L.take 6=L:=by rw[<-hLl,List.take_length]
 have h6l:=pM h6;have e1:=rJ (n:=(dt.length:Int)) (by constructor<;>omega);have e2:=rJ (n:=(ls.length:Int)) (by constructor<;>omega);have e3:=pM (l:=ls) ho.2.2.2.2.2.2;have hip:xu.pre [.sl .plain nl ls.length (rD ls)]=True:=IN hll ho.2.2.2.2.2.2 rfl;have hiq:xu.post [.sl .plain nl ls.length (rD ls)]= .sl (.own 1) (some false) (qF ls).length (bys (qF ls)):=by rw[xu,CO];rfl
 have hcp:uS.pre [.sl .plain (some false) 3 [.sl (.own 1) none (L.flatMap eU).length (bys (L.flatMap eU)),.sl (.own 1) (some false) (mX dt).length (bys (mX dt)),.sl (.own 1) (some false) (qF ls).length (bys (qF ls))]]=True:=
  Ts (ps:=[(none,L.flatMap eU),(some false,mX dt),(some false,qF ls)]) (by simp only[z3k,List.map_cons,List.map_nil,List.sum_cons,List.sum_nil,mX,qF,List.length_append];omega) (by simp) rfl
 have hcq:uS.post [.sl .plain (some false) 3 [.sl (.own 1) none (L.flatMap eU).length (bys (L.flatMap eU)),.sl (.own 1) (some false) (mX dt).length (bys (mX dt)),.sl (.own 1) (some false) (qF ls).length (bys (qF ls))]]= .sl (.own 1) none (L.flatMap eU++(mX dt++qF ls)).length (bys (L.flatMap eU++(mX dt++qF ls))):=by have:=PV (some false) 3 [(none,L.flatMap eU),(some false,mX dt),(some false,qF ls)];simpa[bls,-List.length_append,-List.length_flatMap] using this
 have hE:G0 ⟨k1,k2,k3,k4,k5,k6,dt,ls⟩=L.flatMap eU++(mX dt++qF ls):=by rw[hL];rfl
 rw[hE] at hQ0;simp(maxSteps:=999999) (disch:=first|omega|simp<;>omega|rfl) [fJ,oG,oF,vQ,vT,kT,kF,dT,dF,hQ1,hQ0,hT,Bi,h7,Gc,h39,hip,hiq,h129,hcp,hcq,-oG,-List.length_append,-List.length_flatMap]
set_option maxHeartbeats 4000000 in
theorem z1H(E:Env)(h29:E.G 29=BY)(h30:E.G 30=Kd)(h40:E.G 40=xw):∀ds,Hh.pre ds->ds.length=qk.n∧awp E qk.body (qH qk.res (Hh.post ds)) (fP qk.wr ds):=by
 rintro _ ⟨c,nl,hc,rfl⟩;rw[F6];obtain⟨k1,k2,k3,k4,k5,k6,dt,ls⟩:=c;obtain⟨ho,hd,hll⟩:=hc;simp only at hd hll;simp(maxSteps:=999999) (disch:=first|omega|simp<;>omega|rfl) [fJ,oG,oF,qk,wx,wv,yP];refine oI λQ0 hQ0=> ?_;simp(maxSteps:=999999) (disch:=first|omega|simp<;>omega|rfl) [fJ,oG,oF,vU];have h6:=UA ho;obtain⟨L,hL⟩:∃L:List Int,L=[k1,k2,k3,k4,k5,k6]:=⟨_,rfl⟩;have hLl:L.length=6:=by rw[hL];rfl
 rw[show [i64 k1,i64 k2,i64 k3,i64 k4,i64 k5,i64 k6]=rD L by rw[hL];rfl];rw[<-hL] at h6;refine dH (λi:Nat=>⟨[(0,.agg [i64 k1,i64 k2,i64 k3,i64 k4,i64 k5,i64 k6,st dt,.sl .plain nl ls.length (rD ls)])],[(1,.bp 1 0),(3,.sl (.own 1) none ((L.take i).flatMap eU).length (bys ((L.take i).flatMap eU))),(4,.sl (.own 1) (some false) 6 (rD L)),(5,i64 i)],[(1,some [i64 k1,i64 k2,i64 k3,i64 k4,i64 k5,i64 k6,st dt,.sl .plain nl ls.length (rD ls)])]⟩) (λi=>6-i) (· <=6) 0 (by simp) (by simp) λi hi=> ?_;refine oI λQ1 hQ1=> ?_;by_cases h1:i<6
 ·have h1':i<L.length:=by omega
  have hs:=rz L eU 0 h1';rw[show L.getD i 0=atI L i from rfl] at hs;have ha:=h6 _ (Hy h1');have g2:=rJ ha;have g3:=pM (l:=L.take i) λx hx=>h6 x (List.mem_of_mem_take hx);have g4:(L.take i).length<=6:=by rw[List.length_take];omega
  generalize hF:(L.take i).flatMap eU=F at*
  generalize hX:atI L i=x at*
  have hg:hdA (rD (L.drop i))=i64 x:=by rw[<-hX];exact B6 h1'
  simp(maxSteps:=999999) (disch:=first|omega|simp<;>omega|rfl) [fJ,oG,oF,tr,tG,wm,kT,kF,dT,dF,h1,hg,hLl,h30,GJ ha.1 ha.2,hQ1,-List.length_flatMap];exact⟨by omega,by omega,by omega,i+1,by omega,by omega,⟨by rw[hs,List.length_append],hs.symm⟩,by omega⟩
 obtain rfl:i=6:=by omega
 have hT:L.take 6=L:=by rw[<-hLl,List.take_length]
 have h6l:=pM h6;have e1:=rJ (n:=(dt.length:Int)) (by constructor<;>omega);have e2:=rJ (n:=(ls.length:Int)) (by constructor<;>omega);have e3:=pM (l:=ls) ho.2.2.2.2.2.2;have hip:xw.pre [.sl .plain nl ls.length (rD ls)]=True:=IN hll ho.2.2.2.2.2.2 rfl;have hiq:xw.post [.sl .plain nl ls.length (rD ls)]= .sl (.own 1) none (qF ls).length (bys (qF ls)):=by rw[xw,CO];rfl
 have hE:G0 ⟨k1,k2,k3,k4,k5,k6,dt,ls⟩=L.flatMap eU++(mX dt++qF ls):=by rw[hL];rfl
 rw[hE] at hQ0;simp(maxSteps:=999999) (disch:=first|omega|simp<;>omega|rfl) [fJ,oG,oF,tr,tG,kT,kF,dT,dF,hQ1,hQ0,hT,wk,wH,h29,HJ,h40,hip,hiq,-oG,-List.length_append,-List.length_flatMap];have e4:(mX dt).length=(eU dt.length).length+dt.length:=by rw[mX,List.length_append]
 have e5:(qF ls).length=(eU ls.length).length+(ls.flatMap eU).length:=by rw[qF,List.length_append]
 refine⟨by omega,by simp only[List.length_append] at*;omega,by simp only[List.length_append];omega,by simp only[sP]⟩
 --, List.length_append] at *; omega, by simp only [List.length_append]; omega, by simp only [bys_append]⟩
set_option maxHeartbeats 8000000 in
theorem Y2(E:Env)(h54:E.G 54=wF):∀ds,BQ.pre ds->ds.length=qR.n∧awp E qR.body (qH qR.res (BQ.post ds)) (fP qR.wr ds):=by
 rintro _ ⟨c,d,nl,nl',hc,hd,rfl⟩;rw[AB];obtain⟨k1,k2,k3,k4,k5,k6,dt,ls⟩:=c;obtain⟨j1,j2,j3,j4,j5,j6,dt',ls'⟩:=d;have hll:=hc.2.2;simp only at hll;simp(maxSteps:=999999) (disch:=first|omega|simp<;>omega|rfl) [fJ,oG,oF,qR,yP];refine oI λQ0 hQ0=> ?_;simp only[Gk] at hQ0;cases c1:k1==j1
 ·rw[c1] at hQ0;simp(maxSteps:=999999) (disch:=first|omega|simp<;>omega|rfl) [fJ,oG,oF,px,c1,hQ0]
 rw[c1] at hQ0;cases c2:k2==j2
 ·rw[c2] at hQ0;simp(maxSteps:=999999) (disch:=first|omega|simp<;>omega|rfl) [fJ,oG,oF,px,c1,c2,hQ0]
 rw[c2] at hQ0;cases c3:k3==j3
 ·rw[c3] at hQ0;simp(maxSteps:=999999) (disch:=first|omega|simp<;>omega|rfl) [fJ,oG,oF,px,c1,c2,c3,hQ0]
 rw[c3] at hQ0;cases c4:k4==j4
 ·rw[c4] at hQ0;simp(maxSteps:=999999) (disch:=first|omega|simp<;>omega|rfl) [fJ,oG,oF,px,c1,c2,c3,c4,hQ0]
 rw[c4] at hQ0;cases c5:k5==j5
 ·rw[c5] at hQ0;simp(maxSteps:=999999) (disch:=first|omega|simp<;>omega|rfl) [fJ,oG,oF,px,c1,c2,c3,c4,c5,hQ0]
 rw[c5] at hQ0;cases c6:k6==j6
 ·rw[c6] at hQ0;simp(maxSteps:=999999) (disch:=first|omega|simp<;>omega|rfl) [fJ,oG,oF,px,c1,c2,c3,c4,c5,c6,hQ0]
 rw[c6] at hQ0;cases c7:dt==dt'
 ·rw[c7] at hQ0;have d7:(dt=dt')=False:=by simpa using c7
  simp(maxSteps:=999999) (disch:=first|omega|simp<;>omega|rfl) [fJ,oG,oF,px,c1,c2,c3,c4,c5,c6,d7,hQ0]
 rw[c7] at hQ0;have d7:(dt=dt')=True:=by simpa using c7
 simp(maxSteps:=999999) (disch:=first|omega|simp<;>omega|rfl) [fJ,oG,oF,px,c1,c2,c3,c4,c5,c6,d7,h54,J5,hQ0]
theorem T9(E:Env):∀ds,wF.pre ds->ds.length=pV.n∧awp E pV.body (qH pV.res (wF.post ds)) (fP pV.wr ds):=by
 rintro _ ⟨nl,nl',a,b,ha,rfl⟩;simp(maxSteps:=999999) (disch:=first|omega|simp<;>omega|rfl) [fJ,oG,oF,pV];rw[bq];refine⟨by simp,λh=> ?_,λh=> ?_⟩<;>simp at h
 ·have:(a==b)=false:=by simpa using λe:a=b=>h (by rw[e])
  simp(maxSteps:=999999) (disch:=first|omega|simp<;>omega|rfl) [fJ,oG,oF,wF,this]
 simp(maxSteps:=999999) (disch:=first|omega|simp<;>omega|rfl) [fJ,oG,oF,vd];have hl:a.length=b.length:=by omega
 refine oI λQ0 hQ0=> ?_;refine dH (λi:Nat=>⟨[(0,.sl .plain nl a.length (rD a)),(1,.sl .plain nl' b.length (rD b))],[(5,i64 i)],[]⟩)
  (λi=>a.length-i) (λi=>i<=a.length∧a.take i=b.take i) 0 rfl (by simp) λi hi=> ?_
 obtain⟨hi,he⟩:=hi;refine oI λQ1 hQ1=> ?_;simp(maxSteps:=999999) (disch:=first|omega|simp<;>omega|rfl) [fJ,oG,oF,vg];rw[bq];refine⟨by simp,λh1=> ?_,λh1=> ?_⟩<;>simp at h1
 ·have h1':i<a.length:=by omega
  simp(maxSteps:=999999) (disch:=first|omega|simp<;>omega|rfl) [fJ,oG,oF,u7,B6];refine⟨by omega,by omega,by omega,by omega,?_⟩;rw[bq];refine⟨by simp,λh2=> ?_,λh2=> ?_⟩<;>simp at h2
  ·have:(a==b)=false:=by simpa using λe:a=b=>h2 (by rw[e])
   simp(maxSteps:=999999) (disch:=first|omega|simp<;>omega|rfl) [fJ,oG,oF,hQ1,hQ0,wF,this]
  simp(maxSteps:=999999) (disch:=first|omega|simp<;>omega|rfl) [fJ,oG,oF,hQ1];refine⟨i+1,by omega,⟨by omega,?_⟩,by simp⟩;have h3:i<b.length:=by omega
  have h4:a[i]=b[i]:=by simpa[atI,List.getD,List.getElem?_eq_getElem h1',List.getElem?_eq_getElem h3] using h2
  rw[List.take_succ_eq_append_getElem h1',List.take_succ_eq_append_getElem h3,he,h4]
 have e:i=a.length:=by omega
 subst e;have:(a==b)=true:=by rw[List.take_length,hl,List.take_length] at he;simpa using he
 simp(maxSteps:=999999) (disch:=first|omega|simp<;>omega|rfl) [fJ,oG,oF,hQ1,hQ0,vf,wF,this]
theorem z6A(E:Env)(h0:E.G 0=Er)(h1:E.G 1=QS)(h2:E.G 2=Us):∀ds,LT.pre ds->ds.length=Ay.n∧awp E Ay.body (qH Ay.res (LT.post ds)) (fP Ay.wr ds):=by
 rintro _ ⟨nl,l,hl,rfl⟩;have hb:(bP.init.add l).b.length=64:=by rw[Hk,IJ]
 have hn:(bP.init.add l).n.toNat<1099511627776:=by rw[Ja _ _ (by show 0+l.length<_;omega)];show 0+l.length<_;omega
 simp(disch:=first|omega|(simp;omega)) [Ay,h0,h1,h2,Er,QS,Us,LT,bP.v,bP.of_scs _ IJ,bP.of_scs _ hb,oJ];have hs:(bP.init.add l).sum.length=32:=cI _ 32;refine⟨⟨_,IJ,rfl⟩,⟨_,hb,hn,rfl⟩,hs,?_⟩;rw[oJ (by simp[hs])];simp[hs,sha,List.take_of_length_le]
theorem z1j(E:Env):∀ds,Er.pre ds->ds.length=wC.n∧awp E wC.body (qH wC.res (Er.post ds)) (fP wC.wr ds):=by rintro _ rfl;simp[wC,Er,bP.v,bP.init,scs,H8.l,JN,FF,oJ,iv,or_imp,forall_and,List.take_of_length_le]
theorem z4L(E:Env):∀ds,Xk.pre ds->ds.length=rC.n∧awp E rC.body (qH rC.res (Xk.post ds)) (fP rC.wr ds):=by rintro _ ⟨x,k,rfl⟩;simp[rC,Xk,Qe]
theorem z0aa(E:Env)(h13:E.G 13=Xk):∀ds,z4k.pre ds->ds.length=AG.n∧awp E AG.body (qH AG.res (z4k.post ds)) (fP AG.wr ds):=by rintro _ ⟨x,i,j,k,rfl⟩;simp[AG,z4k,h13,Xk]
theorem z7d(E:Env)(h13:E.G 13=Xk):∀ds,Be.pre ds->ds.length=tA.n∧awp E tA.body (qH tA.res (Be.post ds)) (fP tA.wr ds):=by
 rintro _ ⟨nl,b,hb,rfl⟩;simp[tA,h13,Xk,Be];refine oI λQ0 hQ0=> ?_;refine dH (λt:Nat=>⟨[(0,.sl .plain nl 64 (bys b))],[(2,.bp 2 0),(3,.bp 3 0),(11,i64 t)],[(2,some (bg (qG 64))),(3,some (bg (qX b t++qG (64-t))))]⟩)
  (λt=>64-t) (· <=64) 0 rfl (by decide) λt ht=> ?_
 have hl:=sT b t;refine oI λQ1 hQ1=> ?_;simp(disch:=first|omega|(simp;omega)) [fJ];rw[bq];refine⟨by simp,λh=> ?_,λh=> ?_⟩<;>simp at h
 ·simp(disch:=first|omega|(simp;omega)) [fJ];rw[bq];refine⟨by simp,λh16=> ?_,λh16=> ?_⟩<;>simp at h16
  ·simp(disch:=first|omega|(simp;omega)) [fJ];refine⟨by omega,?_⟩;refine oI λQ2 hQ2=> ?_;refine dH (λj:Nat=>⟨[(0,.sl .plain nl 64 (bys b))],[(2,.bp 2 0),(3,.bp 3 0),(4,i64 t),(11,i64 t),(22,.sl .plain nl 4 (bys ((b.drop (4*t)).take 4))),(23,i64 4),(24,i64 j)],
     [(2,some (bg (qG 64))),(3,some (bg (qX b t++ldw b t j::qG (63-t))))]⟩)
    (λj=>4-j) (· <=4) 0 ?_ (by decide) λj hj=> ?_
   ·have e1:(4*(t:Int)+4).toNat-(4*(t:Int)).toNat=4:=by omega
    have e2:(4*(t:Int)).toNat=4*t:=by omega
    rw[e1,e2,EU (show t<64 by omega),ldw];rfl
   refine oI λQ3 hQ3=> ?_;simp(disch:=first|omega|(simp;omega)) [fJ];rw[bq];refine⟨by simp,λh4=> ?_,λh4=> ?_⟩<;>simp at h4
   ·simp(disch:=first|omega|(simp;omega)) [fJ,Lq,AH,Zu,WX,Ti,vJ,IR]
    repeat' (first|omega|apply And.intro)
    simp(disch:=omega) [hQ3,fJ];refine⟨j+1,by omega,by omega,by omega,?_⟩;rw[ldw]
   have e4:j=4:=by omega
   subst e4;simp(disch:=omega) [hQ3,hQ2,hQ1,fJ];refine⟨t+1,by omega,by omega,by omega,?_⟩;rw[qX,KA,if_pos (by omega),show 64-(t+1)=63-t by omega];simp
  simp(disch:=first|omega|(simp;omega)) [fJ,h13,Xk,z9W,z6D,z2r,z4x,AH,vJ,Rx]
  repeat' (first|omega|apply And.intro)
  simp[hQ1];refine⟨t+1,by omega,by omega,by omega,?_⟩;rw[qX,KA,if_neg (by omega),show 64-(t+1)=63-t by omega,EU (by omega),show((t:Int)-16).toNat=t-16 by omega,show((t:Int)-15).toNat=t-15 by omega,show((t:Int)-7).toNat=t-7 by omega,show((t:Int)-2).toNat=t-2 by omega];simp[sg0,sg1]
 have e:t=64:=by omega
 subst e;simp(disch:=simp[hl]) [hQ1,hQ0,oJ,hl,List.take_of_length_le,qG]
theorem z4A(E:Env)(h4:E.G 4=Ie):∀ds,QS.pre ds->ds.length=su.n∧awp E su.body (qH su.res (QS.post ds)) (fP su.wr ds):=by
 rintro _ ⟨s,m,hb,rfl⟩;simp(disch:=first|omega|(simp;omega)) [su,h4,Ie,QS,bP.v,hb,yo,bP.of_scs];refine oI λQ0 hQ0=> ?_;refine dH (λk:Nat=>⟨[(0,.agg (scs s))],[(1,st (m.drop k)),(2,.bp 2 0),(4,.bp 4 0)],
   [(2,some (scs (s.add (m.take k)))),(4,some (bg (qG 8)++(bys (bF 64)++[u64 0])))]⟩)
  (λk=>m.length-k) (· <=m.length) 0 (by simp[bP.add]) (by simp) λk hk=> ?_
 refine oI λQ1 hQ1=> ?_;have hb':(s.add (m.take k)).b.length=64:=by rw[Hk,hb]
 simp(disch:=first|omega|(simp;omega)) [fJ];rw[bq];refine⟨by simp,λh=> ?_,λh=> ?_⟩<;>simp at h
 ·generalize hs:s.add (m.take k)=s' at*
  generalize hr:m.drop k=r at*
  have hrl:r.length=m.length-k:=by rw[<-hr];simp
  have hn:s'.n.toNat% 64<64:=Nat.mod_lt _ (by decide);simp(disch:=first|omega|(simp;omega)) [fJ,yo,z0d,z3O,z9A,NW,Up,V3,hb'];refine⟨by omega,by omega,by omega,?_⟩;refine oI λQ2 hQ2=> ?_;generalize hj:min r.length (64-s'.n.toNat% 64)=j at*
  have hjl:j<=r.length:=by omega
  have hpiece:=I4 s' hb' j (r.take j) (by simp;omega) (by omega);have hstep:s.add (m.take (k+j))=s'.add (r.take j):=by rw[List.take_add,CK,hs,hr]
  have hrest:(r.drop j).take (r.length-j)=m.drop (k+j):=by rw[List.take_of_length_le (by simp),<-hr,List.drop_drop]
  have hof:UInt64.ofInt (j:Int)=UInt64.ofNat j:=by apply UInt64.toNat_inj.1;rw[cd,UInt64.toNat_ofNat'];omega
  rw[bq];refine⟨by simp,λh30=> ?_,λh30=> ?_⟩<;>simp at h30
  ·generalize hS:(⟨s'.h,_,_⟩:bP)=S at*
   have hSb:S.b.length=64:=by rw[<-hS];simp[hb'];omega
   simp(disch:=first|omega|(simp;omega)) [h4,Ie,yo,z3O,z9A,NW,hSb];refine⟨⟨_,_,_,hSb,rfl,rfl,rfl⟩,?_⟩;simp[hQ2,hQ1];refine⟨k+j,by omega,by omega,hrest,?_⟩;rw[hstep,hpiece,if_pos (by omega),<-hS,hof]
  simp[hQ2,hQ1];refine⟨k+j,by omega,by omega,hrest,?_⟩;rw[hstep,hpiece,if_neg (by omega),hof]
 have e:k=m.length:=by omega
 subst e;have hm:(s.add m).b.length=64:=by rw[Hk,hb]
 simp[hQ1,hQ0,yo hm,LP hm R9,TK hm]
theorem z1X:kc.length=64:=rfl
def Oe(s:List UInt32)(v e:List UInt32):Nat->List UInt32
 |0=>s
 |t+1=>((Oe s v e t).set t (bJ (Oe s v e t) t+bJ v t)).set (t+4) (bJ ((Oe s v e t).set t (bJ (Oe s v e t) t+bJ v t)) (t+4)+bJ e t)
theorem R6(s v e:List UInt32):∀t,(Oe s v e t).length=s.length
 |0=>rfl
 |t+1=>by simp[Oe,R6 s v e t]
theorem z4ca(s v:H8):Oe s.l [v.a,v.b,v.c,v.d] [v.e,v.f,v.g,v.h] 4=(s.add v).l:=rfl
theorem z0e(E:Env)(hT:E.T 0=bg kc)(h10:E.G 10=Be)(h11:E.G 11=z4k):∀ds,Ie.pre ds->ds.length=tt.n∧awp E tt.body (qH tt.res (Ie.post ds)) (fP tt.wr ds):=by
 rintro _ ⟨s,nl,b,hb,rfl⟩;have hl:=sT b 64;have hk:=z1X;simp(disch:=first|omega|(simp;omega)) [tt,h10,h11,Be,z4k,Ie,hT];refine⟨hb,hl,by omega,?_⟩;refine oI λQ0 hQ0=> ?_;refine dH (λt:Nat=>⟨[(0,.agg (bg s.l)),(1,.sl .plain nl 64 (bys b))],
   [(2,.bp 2 0),(4,.bp 4 0),(5,.bp 5 0),(6,.bp 6 0),(7,.bp 7 0),(21,.agg (bg kc)),(22,i64 t)],
   [(2,some (bg s.l)),(4,some (bg (qG 8))),(5,some (bg (qX b 64))),
    (6,some (bg [(Kp (qX b 64) s t).a,(Kp (qX b 64) s t).b,(Kp (qX b 64) s t).c,(Kp (qX b 64) s t).d])),
    (7,some (bg [(Kp (qX b 64) s t).e,(Kp (qX b 64) s t).f,(Kp (qX b 64) s t).g,(Kp (qX b 64) s t).h]))]⟩)
  (λt=>64-t) (· <=64) 0 ?_ (by decide) λt ht=> ?_
 ·have e:kc.take 64=kc:=rfl;simp(disch:=simp[hl]) [oJ,Kp,H8.l,e]
 refine oI λQ1 hQ1=> ?_;simp(disch:=first|omega|(simp;omega)) [fJ];rw[bq];refine⟨by simp,λh=> ?_,λh=> ?_⟩<;>simp at h
 ·generalize hr:Kp (qX b 64) s t=r at*
  simp(maxSteps:=2000000) (disch:=first|omega|(simp;omega)) [fJ,JN,h11,z4k,z2aa,z9s,z0B,z3aa,z1t,z6s,AH,Ki,hl,hk,oJ]
  repeat' (first|omega|apply And.intro)
  rw[hQ1];simp[JN];refine⟨t+1,by omega,by omega,by omega,?_⟩;have sf:∀a b c d x y z w:oH,splice [a,b,c,d] 0 [x,y,z,w]=[x,y,z,w]:=λa b c d x y z w=>rfl;simp only[Kp,hr,sf,rnd,and_self]
 have e:t=64:=by omega
 subst e;simp[hQ1,hQ0];refine oI λQ2 hQ2=> ?_;generalize hv:Kp (qX b 64) s 64=v at*
 refine dH (λt:Nat=>⟨[(0,.agg (bg s.l)),(1,.sl .plain nl 64 (bys b))],
  [(2,.bp 2 0),(4,.bp 4 0),(6,.bp 6 0),(7,.bp 7 0),(94,i64 t)],
  [(2,some (bg (Oe s.l [v.a,v.b,v.c,v.d] [v.e,v.f,v.g,v.h] t))),(4,some (bg (qG 8))),(5,some (bg (qX b 64))),
   (6,some (bg [v.a,v.b,v.c,v.d])),(7,some (bg [v.e,v.f,v.g,v.h]))]⟩)
  (λt=>4-t) (· <=4) 0 rfl (by decide) λt ht=> ?_
 refine oI λQ3 hQ3=> ?_;simp(disch:=first|omega|(simp;omega)) [fJ];rw[bq];have ha:=R6 s.l [v.a,v.b,v.c,v.d] [v.e,v.f,v.g,v.h] t;rw[H8.len] at ha;refine⟨by simp,λh=> ?_,λh=> ?_⟩<;>simp at h
 ·simp(disch:=first|omega|(simp;omega)) [fJ,AH,vJ]
  repeat' (first|omega|apply And.intro)
  have e4:((t:Int)+4).toNat=t+4:=by omega
  rw[e4,vJ (by rw[List.length_set,ha];omega),hQ3];simp;exact⟨t+1,by omega,by omega,by omega,rfl⟩
 have e:t=4:=by omega
 subst e;simp[hQ3,hQ2,z4ca,oJ,Ni,hv];rfl
theorem z7ia(E:Env)(h1:E.G 1=QS):∀ds,Us.pre ds->ds.length=sr.n∧awp E sr.body (qH sr.res (Us.post ds)) (fP sr.wr ds):=by
 rintro _ ⟨s,hb,hn,rfl⟩;simp(disch:=first|omega|(simp;omega)) [sr,h1,QS,Us,bP.v,hb,yo,bP.of_scs,z0d];refine oI λQ0 hQ0=> ?_;refine dH (λk:Nat=>⟨[(0,.agg (scs s))],[(1,.bp 1 0),(2,.bp 2 0),(3,u64 (8*s.n)),(4,.sl (.own 1) (some false) (k+1) (bys (128::bF k)))],
   [(1,some (scs s)),(2,some (bys (bF 32)))]⟩)
  (λk=>KC s.n.toNat-k) (· <=KC s.n.toNat) 0 rfl (by simp) λk hk=> ?_
 have hz:=Pk s.n.toNat;have hzo:=Ps s.n.toNat;refine oI λQ1 hQ1=> ?_;simp(disch:=first|omega|(simp;omega)) [fJ,yo,z0d,hb];rw[bq];refine⟨by simp,λh=> ?_,λh=> ?_⟩<;>simp at h<;>rw[Int.tmod_eq_emod_of_nonneg (by omega)] at h
 ·simp(disch:=first|omega|(simp;omega)) [fJ,hQ1];clear hQ0 hQ1;refine⟨by omega,?_⟩;refine⟨k+1,by omega,by omega,by omega,?_⟩;rw[show [u8 0]=bys [0] from rfl,<-sP,<-Ko];simp
 have e:k=KC s.n.toNat:=by omega
 subst e;simp[hQ1,hQ0];refine oI λQ2 hQ2=> ?_;refine dH (λi:Nat=>⟨[(0,.agg (scs s))],[(1,.bp 1 0),(2,.bp 2 0),(3,u64 (8*s.n)),(4,.sl (.own 1) (some false) (KC s.n.toNat+1+i) (bys (128::bF (KC s.n.toNat)++be8 (8*s.n) i))),(23,i64 i)],
   [(1,some (scs s)),(2,some (bys (bF 32)))]⟩)
  (λi=>8-i) (· <=8) 0 (by simp[be8]) (by decide) λi hi=> ?_
 have hbe:=HX (8*s.n) i;refine oI λQ3 hQ3=> ?_;simp(disch:=first|omega|(simp;omega)) [fJ];rw[bq];refine⟨by simp,λh=> ?_,λh=> ?_⟩<;>simp at h
 ·have e7:((56:Int)-8*(i:Int)).toNat=56-8*i:=by omega
  simp(disch:=first|omega|(simp;omega)) [fJ,e7]
  repeat' (first|omega|apply And.intro)
  rw[hQ3];simp;refine⟨i+1,by omega,by omega,⟨by omega,?_⟩,by omega⟩;rw[be8,show [u8 (ct (8*s.n) (56-8*i)).toUInt8]=bys [(ct (8*s.n) (56-8*i)).toUInt8] from rfl,<-sP];simp
 have e:i=8:=by omega
 subst e;simp(disch:=first|omega|(simp;omega)) [hQ3,hQ2,h1,QS,bP.v,yo,TK,LP,hb,bP.of_scs,Hk];generalize hS:s.add (128::(bF (KC s.n.toNat)++be8 (8*s.n) 8))=S at*
 have hSb:S.b.length=64:=by rw[<-hS,Hk,hb]
 have hsum:s.sum=SK S.h 32:=by rw[<-hS];rfl
 rw[LP hSb (yo hb),hsum];clear hQ1 hQ2 hQ3 hQ0;refine⟨?_,⟨s,hb,rfl⟩,yo hSb,?_⟩
 ·have:=HX (8*s.n) 8;simp[this]
 refine oI λQ4 hQ4=> ?_;refine dH (λi:Nat=>⟨[(0,.agg (scs s))],[(1,.bp 1 0),(2,.bp 2 0),(6,.bp 6 0),(40,i64 i)],
   [(1,some (scs S)),(2,some (bys (bF 32))),(6,some (bys (SK S.h i++bF (32-i))))]⟩)
  (λi=>32-i) (· <=32) 0 rfl (by decide) λi hi=> ?_
 have ho:=cI S.h i;refine oI λQ5 hQ5=> ?_;simp(disch:=first|omega|(simp;omega)) [fJ];rw[bq];refine⟨by simp,λh=> ?_,λh=> ?_⟩<;>simp at h
 ·have e4:(i:Int).tmod 4=((i% 4:Nat):Int):=by rw[Int.tmod_eq_emod_of_nonneg (by omega)];rfl
  have e5:((i:Int)/4).toNat=i/4:=by omega
  have e6:((24:Int)-8*((i% 4:Nat):Int)).toNat=24-8*(i% 4):=by omega
  simp(disch:=first|omega|(simp;omega)) [fJ,e4,e5,z62,yo hSb];refine⟨by omega,by omega,by omega,by omega,by omega,?_⟩;have e7:((24:Int)-8*((i:Int)% 4)).toNat=24-8*(i% 4):=by omega
  rw[e7,G7 (by simp;omega),LY (by omega),IR ho.symm,hQ5];simp;refine⟨i+1,by omega,by omega,by omega,?_⟩;rw[SK,show 32-(i+1)=32-1-i by omega];simp
 have e:i=32:=by omega
 subst e;simp(disch:=simp[ho]) [hQ5,hQ4,oJ,ho,List.take_of_length_le,bF]
def WL:ItC:=Ph C7
theorem z5M(E:Env)(h303:E.G 303=C7):∀x y l,WL.pre x y->x.length=pO.nx∧y.length=pO.ny∧C4 E l (WL.el x y) pO.body (itQ (WL.el x y)) (0,false) (WB l [] x y):=TY E C7 h303
theorem z7ua(E:Env)(h0:E.G 0=Er)(h1:E.G 1=QS)(h2:E.G 2=Us)(h7:E.G 7=Dy):∀ds,ofC.pre ds->ds.length=CB.n∧awp E CB.body (qH CB.res (ofC.post ds)) (fP CB.wr ds):=by
 rintro _ ⟨tag,nl,parts,hl,rfl⟩;simp(maxSteps:=999999) (disch:=first|omega|simp<;>omega|rfl) [fJ,oG,oF,CB,h0,h1];refine oI λQ0 hQ0=> ?_;refine dH (λi:Nat=>⟨[(0,i64 tag),(1,.sl .plain nl parts.length (sts parts))],[(4,.bp 4 0),(5,.bp 5 0),(15,.sl .plain nl parts.length (sts parts)),(16,i64 parts.length),(17,i64 i)],
   [(4,some (bys (bF 16))),(5,some (svc (mY tag (parts.take i))))]⟩)
  (λi=>parts.length-i) (· <=parts.length) 0 rfl (by simp) λi hi=> ?_
 have hlen:=FY parts;refine oI λQ1 hQ1=> ?_;simp(maxSteps:=999999) (disch:=first|omega|simp<;>omega|rfl) [fJ,oG,oF];rw[bq];refine⟨by simp,λh=> ?_,λh=> ?_⟩<;>simp at h
 ·have hb:=JO (l:=parts) (i:=i) (by omega);simp(maxSteps:=999999) (disch:=first|omega|simp<;>omega|rfl) [fJ,oG,oF,z0p,h7,h1,Gc]
  repeat' (first|omega|apply And.intro)
  simp[hQ1];refine⟨i+1,by omega,by omega,by omega,?_⟩;rw[mY,mY,rz _ _ [] (by omega)];rfl
 have e:i=parts.length:=by omega
 subst e;have hi:(mY tag parts).length<1099511627776:=by have:=vD hl;simp only[mY,List.length_cons];omega
 simp(maxSteps:=999999) (disch:=first|omega|simp<;>omega|rfl) [fJ,oG,oF,hQ1,hQ0,h2,z1I,pB];rw[bh,List.take_take,Nat.min_self]
theorem z14(E:Env):∀ds,wF.pre ds->ds.length=sq.n∧awp E sq.body (qH sq.res (wF.post ds)) (fP sq.wr ds):=by
 rintro _ ⟨nl,nl',a,b,ha,rfl⟩;by_cases h:a.length=b.length
 rotate_left
 ·have:(a==b)=false:=by simpa using λe:a=b=>h (by rw[e])
  have h':¬((a.length:Int)=b.length):=by omega
  simp(maxSteps:=999999) (disch:=first|omega|simp<;>omega|rfl) [fJ,oG,oF,sq,yk,yp,h',kT,kF,wF,this]
 have h':((a.length:Int)=b.length):=by omega
 simp(maxSteps:=999999) (disch:=first|omega|simp<;>omega|rfl) [fJ,oG,oF,sq,yk,yp,Cz,h',kT,kF];refine oI λQ0 hQ0=> ?_;simp(maxSteps:=999999) (disch:=first|omega|simp<;>omega|rfl) [fJ,oG,oF,CN];refine dH (λi:Nat=>⟨[(0,.sl .plain nl a.length (rD a)),(1,.sl .plain nl' b.length (rD b))],[(12,i64 a.length),(13,i64 i)],[]⟩)
  (λi=>a.length-i) (λi=>i<=a.length∧a.take i=b.take i) 0 (by simp[h']) (by simp) λi hi=> ?_
 obtain⟨hi,he⟩:=hi;refine oI λQ1 hQ1=> ?_;by_cases h1':i<a.length
 ·have h3:i<b.length:=by omega
  by_cases h2:atI a i=atI b i
  ·simp(maxSteps:=999999) (disch:=first|omega|simp<;>omega|rfl) [fJ,oG,oF,uZ,u0,yh,yn,yG,kT,kF,dT,dF,B6,h1',h2,hQ1];have h4:a[i]=b[i]:=by simpa[atI,List.getD,List.getElem?_eq_getElem h1',List.getElem?_eq_getElem h3] using h2
   exact⟨by omega,by omega,by omega,i+1,by omega,⟨by omega,by rw[List.take_succ_eq_append_getElem h1',List.take_succ_eq_append_getElem h3,he,h4]⟩,by omega⟩
  have:(a==b)=false:=by simpa using λe:a=b=>h2 (by rw[e])
  simp(maxSteps:=999999) (disch:=first|omega|simp<;>omega|rfl) [fJ,oG,oF,uZ,u0,yh,yn,yG,kT,kF,dT,dF,B6,h1',h2,hQ1,hQ0,wF,this];omega
 have e:i=a.length:=by omega
 subst e;have:(a==b)=true:=by rw[List.take_length,h,List.take_length] at he;simpa using he
 simp(maxSteps:=999999) (disch:=first|omega|simp<;>omega|rfl) [fJ,oG,oF,uZ,u0,kT,kF,dT,dF,hQ1,hQ0,Cs,wF,this]
def Qy:aW:=⟨λds=>∃m:sy,m.ok∧ds=[.agg (uK m)],λds=> .sl (.own 1) (some false) 8 (rD (vn (z2j (gCs (nth ds 0)))))⟩
theorem XA{m:sy}(h:m.ok):Qy.pre [.agg (uK m)]=True:=eq_true ⟨m,h,rfl⟩
theorem NA(m:sy):Qy.post [.agg (uK m)]= .sl (.own 1) (some false) 8 (rD (vn m)):=by show oH.sl (.own 1) (some false) 8 (rD (vn (z2j (uK m))))=_;rw[Gn]
theorem z9v(E:Env):∀ds,Qy.pre ds->ds.length=pJ.n∧awp E pJ.body (qH pJ.res (Qy.post ds)) (fP pJ.wr ds):=by
 rintro _ ⟨m,hm,rfl⟩;rw[NA];have hd:=hm.2.2.2.2.2.2.2;have hl:=uc hd;cases hr:m.raw
 ·simp(maxSteps:=999999) (disch:=first|omega|simp<;>omega|rfl) [fJ,oG,oF,pJ,s7,kT,kF,hl,EI,Hi,hr];simp[vn,rD,z9U,hr]
 simp(maxSteps:=999999) (disch:=first|omega|simp<;>omega|rfl) [fJ,oG,oF,pJ,s7,kT,kF,hl,EI,Hi,hr];simp[vn,rD,z9U,hr]
theorem QI{l:List Int}{n:Nat}{cs:List oH}(nl:Option Bool)(h:∀x∈l,aO x)(hl:l.length<=100000000)(hn:n=l.length)(hc:cs=rD l):xw.pre [.sl .plain nl n cs]=True:=by subst hn hc;exact IN hl h rfl
theorem Lx{l:List Int}{n:Nat}{cs:List oH}(nl:Option Bool)(hc:cs=rD l):xw.post [.sl .plain nl n cs]= .sl (.own 1) none (qF l).length (bys (qF l)):=by subst hc;rw[xw,CO];rfl
set_option maxHeartbeats 16000000 in
theorem ZY(E:Env)(h40:E.G 40=xw)(h147:E.G 147=Hh)(h29:E.G 29=BY)(h23:E.G 23=yy)(h30:E.G 30=Kd)(h332:E.G 332=Qy):∀ds,G2.pre ds->ds.length=qj.n∧awp E qj.body (qH qj.res (G2.post ds)) (fP qj.wr ds):=by
 rintro _ ⟨nc,nm,ng,x,hx,rfl⟩;rw[Eg hx,NM];have hd:=hx.1.2.2.2.2.2.1;have h16:=hx.1.2.2.2.2.2.2.1;have hgo:=hx.1.2.2.2.2.2.2.2;have hml:=hx.2.2.1;have hgl:=hx.2.2.2;have hl:=uD (nc:=nc) (nm:=nm) (ng:=ng) hd;have e28:=Gy (nc:=nc) (nm:=nm) (ng:=ng) hd;have e29:=Gu (nc:=nc) (nm:=nm) (ng:=ng) hd;have hg:=FC (nc:=nc) (nm:=nm) (ng:=ng) hd;have hlen:=wW (sh h16);have hHl:=J0 hx;have hc2:=F3 hx.2.1;have hp4:xw.pre [.sl .plain (some false) 4 [i64 x.time,i64 x.kind,i64 x.req,i64 x.mode]]=True:=QI (some false) (QK hx.1) (by simp) rfl rfl;have hq4:xw.post [.sl .plain (some false) 4 [i64 x.time,i64 x.kind,i64 x.req,i64 x.mode]]=_:=Lx (l:=[x.time,x.kind,x.req,x.mode]) (some false) rfl;have hpg:xw.pre [.sl .plain ng x.gone.length (rD x.gone)]=True:=QI ng hgo (by omega) rfl rfl;have hqg:xw.post [.sl .plain ng x.gone.length (rD x.gone)]=_:=Lx (l:=x.gone) ng rfl;have hgle:=Aq hgo (by omega);have hib:=GJ (n:=(x.made.length:Int)) (by omega) (by omega);have hHd:Xg x=qF [x.time,x.kind,x.req,x.mode]++(mX (G0 x.cmd)++(x.dig++eU x.made.length)):=rfl;have hHll:=congrArg List.length hHd;simp only[List.length_append] at hHll;generalize hH:Xg x=H at*
 generalize hG:qF x.gone=G at*
 generalize h4:qF [x.time,x.kind,x.req,x.mode]=e4 at*
 generalize hSS:mX (G0 x.cmd)=eS at*
 generalize hN:eU x.made.length=eN at*
 simp(maxSteps:=999999) (disch:=first|omega|simp<;>omega|rfl) [fJ,oG,oF,qj,hl,h40,hp4,hq4,h147,So hx.2.1,F6,h29,HJ,hSS,hg,e28,h30,hib,hN,h23,wB,hd,-oG,-List.length_append];rw[<-hHd]
 repeat' apply And.intro
 all_goals try (first|omega|(simp only[List.length_append];omega))
 refine oI λQ0 hQ0=> ?_;refine dH (λi:Nat=>⟨[(0,.agg (qf nc nm ng x))],[(1,.bp 1 0),(3,st (H++(x.made.take i).flatMap Ev)),(4,i64 i)],[(1,some (qf nc nm ng x))]⟩)
  (λi=>x.made.length-i) (λi=>i<=x.made.length) 0 (by simp) (by simp) λi hi=> ?_
 refine oI λQ1 hQ1=> ?_;have hBl:(H++(x.made.take i).flatMap Ev).length<=2000001000+97*i:=by have:=E4 (l:=x.made.take i) λm hm=>h16 m (List.mem_of_mem_take hm);rw[List.length_append];rw[List.length_take] at this;omega
 by_cases h1:i<x.made.length
 ·have hm:=h16 _ (MZ h1);have hmd:=hm.2.2.2.2.2.2.2;have ha:=TW h16 h1;have hmll:=uc hmd;have hle:24<=x.made.length*24-i*24:=by omega
  have hle2:i*24<=x.made.length*24:=by omega
  have hs:(x.made.take (i+1)).flatMap Ev=(x.made.take i).flatMap Ev++Ev (atD x.made i):=by rw[List.take_succ_eq_append_getElem h1,List.flatMap_append,JJ h1];simp
  have hnok:=GO hm;have e8l:=Aq hnok (by simp[vn]);have ha8:((se x.made).drop (i*24+8)).take 16=bys (atD x.made i).dig:=by rw[<-List.drop_drop,show 16=24-8 by rfl,<-List.drop_take,ha];rfl
  generalize hX:atD x.made i=X at*
  have nl8:(vn X).length=8:=rfl;rw[nl8] at e8l;have k1:xw.pre [.sl .plain (some false) 8 (rD (vn X))]=True:=QI (l:=vn X) (some false) hnok (by rw[nl8];omega) rfl rfl;have k2:xw.post [.sl .plain (some false) 8 (rD (vn X))]= .sl (.own 1) none (qF (vn X)).length (bys (qF (vn X))):=Lx (l:=vn X) (some false) rfl;have hcat:Ev X=qF (vn X)++X.dig:=rfl;have hs':H++(x.made.take (i+1)).flatMap Ev=((H++(x.made.take i).flatMap Ev)++qF (vn X))++X.dig:=by rw[hs,hcat];simp only[List.append_assoc]
  generalize hE:qF (vn X)=e8 at*
  generalize hB:H++(x.made.take i).flatMap Ev=B at*
  have m1:=XA hm;have m2:=NA X;have hle3:i*24+8<=x.made.length*24:=by omega
  have hle4:16<=x.made.length*24-(i*24+8):=by omega
  simp(maxSteps:=999999) (disch:=first|omega|simp<;>omega|rfl) [fJ,oG,oF,tw,wb,kT,kF,dT,dF,h1,e28,hl,hlen,hle,hle2,hle3,hle4,ha,ha8,hmll,h332,m1,m2,h40,k1,k2,h23,wB,hmd,hQ1,-oG,-List.length_append];exact⟨by omega,by omega,by rw[List.length_append];omega,i+1,by omega,by omega,by rw[hs',List.append_assoc],by omega⟩
 obtain rfl:i=x.made.length:=by omega
 rw[List.take_length] at*
 generalize hB:H++x.made.flatMap Ev=B at*
 simp(maxSteps:=999999) (disch:=first|omega|simp<;>omega|rfl) [fJ,oG,oF,tw,kT,kF,dT,dF,hQ1,hQ0,wy,hl,e28,e29,h40,hpg,hqg,-List.length_append];exact⟨by omega,by rw[<-hB,List.append_assoc]⟩
theorem ZF(E:Env)(h333:E.G 333=G2)(h20:E.G 20=Kq):∀ds,C7.pre ds->ds.length=qh.n∧awp E qh.body (qH qh.res (C7.post ds)) (fP qh.wr ds):=by
 rintro _ ⟨nc,nm,ng,x,hx,rfl⟩;rw[D5 hx];have hd:=hx.1.2.2.2.2.2.1;have hl:=uD (nc:=nc) (nm:=nm) (ng:=ng) hd;have htk:=T3 (nc:=nc) (nm:=nm) (ng:=ng) hd;have hle:(tL x).length<=2200000000:=by have h1:=J0 hx;have h2:=E4 hx.1.2.2.2.2.2.2.1;have h3:=Aq hx.1.2.2.2.2.2.2.2 (by have:=hx.2.2.2;omega);have h4:=hx.2.2.1;have h5:=hx.2.2.2;rw[NM,List.length_append,List.length_append];omega
 have hp:Kq.pre [i64 8,.sl .plain (some false) 1 [st (tL x)]]=True:=Vv (l:=[tL x]) rfl (by rw[tot1];omega);have hq:Kq.post [i64 8,.sl .plain (some false) 1 [st (tL x)]]= .agg (bys (bh 8 [tL x])):=eR 8 _ 1 [tL x];simp(maxSteps:=999999) (disch:=first|omega|simp<;>omega|rfl) [fJ,oG,oF,qh,hl,htk,h333,Mb hx,Eg hx,h20,hp,hq,aU,bV,pB,oM,pG]
def zd:av:=
 Yq (.block 3 (YR [2,3,4,5,6,7,8,9] [.norm [2,3,6,7]] [YA 34 8 1 7 7,Yl 35 7 34,YA 36 8 1 7 4,Yl 37 7 36,YC 38 26 37 6,YA 39 8 1 7 4,Yl 40 7 39,YC 41 26 40 11,Yb 42 .xor 38 41,YA 43 8 1 7 4,Yl 44 7 43,YC 45 26 44 25,Yb 46 .xor 42 45,Yb 47 .add 35 46,YA 48 8 1 7 4,Yl 49 7 48,YA 50 8 1 7 5,Yl 51 7 50,Yb 52 .and 49 51,YA 53 8 1 7 4,Yl 54 7 53,YW 55 .xor 54 (u32 4294967295),YA 56 8 1 7 6,Yl 57 7 56,Yb 58 .and 55 57,Yb 59 .xor 52 58,Yb 60 .add 47 59,Ym 61 8,Yo 62 (.idxArr 64 1 (.g 1) (.s 61)),Yj 63 62,Yb 64 .add 60 63,Ym 65 8,Ya 66 64 1 6 65,Yl 67 6 66,Yb 68 .add 64 67,Ym 9 68] (YR [2,3,4,5,6,7,8,9,10] [.norm [2,3,6,7]] [YA 69 8 1 7 0,Yl 70 7 69,YC 71 26 70 2,YA 72 8 1 7 0,Yl 73 7 72,YC 74 26 73 13,Yb 75 .xor 71 74,YA 76 8 1 7 0,Yl 77 7 76,YC 78 26 77 22,Yb 79 .xor 75 78,YA 80 8 1 7 0,Yl 81 7 80,YA 82 8 1 7 1,Yl 83 7 82,Yb 84 .and 81 83,YA 85 8 1 7 0,Yl 86 7 85,YA 87 8 1 7 2,Yl 88 7 87,Yb 89 .and 86 88,Yb 90 .xor 84 89,YA 91 8 1 7 1,Yl 92 7 91,YA 93 8 1 7 2,Yl 94 7 93,Yb 95 .and 92 94,Yb 96 .xor 90 95,Yb 97 .add 79 96,Ym 10 97] (.region [2,3,4,5,6,7,8] [.norm [2,3,6,7]] [Ym 98 9,Ym 99 10,Yb 100 .add 98 99,YA 101 8 1 7 0,Yl 102 7 101,YA 103 8 1 7 1,Yl 104 7 103,YA 105 8 1 7 2,Yl 106 7 105,YA 107 8 1 7 3,Yl 108 7 107,Ym 109 9,Yb 110 .add 108 109,YA 111 8 1 7 4,Yl 112 7 111,YA 113 8 1 7 5,Yl 114 7 113,YA 115 8 1 7 6,Yl 116 7 115,Yo 117 (.build [u32 0,u32 0,u32 0,u32 0,u32 0,u32 0,u32 0,u32 0] [(0,1,.s 100),(1,1,.s 102),(2,1,.s 104),(3,1,.s 106),(4,1,.s 110),(5,1,.s 112),(6,1,.s 114),(7,1,.s 116)]),Ys 8 7 7 117])))) (Yu [2,3,4,5,6,7,8] [Ym 32 8,YB 33 .add 32 1,Ym 8 33])
def zf:av:=
 Yq (Yr [2,3,4,5,6,7,8,31] [Ym 30 8,YB 31 .lss 30 64] (Yd 31 (Yy [2,3,4,5,6,7,8]) (.ghost (.keep [2,3,4,5,7]) (.exit 2)))) zd
def yW:av:=
 Yq (.block 5 (.region [2,3,4,5,7,11] [.norm [2,3,6,7]] [Ym 122 11,Ym 123 11,Ya 124 8 1 3 123,Yl 125 3 124,Ym 126 11,Ya 127 8 1 7 126,Yl 128 7 127,Yb 129 .add 125 128,Ya 130 8 1 3 122,YS 3 130 129])) (Yu [2,3,4,5,7,11] [Ym 120 11,YB 121 .add 120 1,Ym 11 121])
def zo:av:=
 Yq (Yr [2,3,4,5,7,11,119] [Ym 118 11,YB 119 .lss 118 8] (Yd 119 (Yy [2,3,4,5,7,11]) (.ghost (.keep [2,3,4,5]) (.exit 4)))) yW
def zm:av:=
 Yr [2,3,4,5,7,11] [Yc 11 0] (.block 4 (.loop zo))
def ze:av:=
 Yq (.block 1 (YR [2,3,4,5,6] [.norm [2,3,6]] [Ym 23 4,Ym 24 5,Ym 25 5,YB 26 .add 25 64,Yo 27 (.slSl 1 (.s 23) (some (.s 24)) (some (.s 26)) none),Yk 28 25 27,Yo 6 (.alloc 6 (bg (qG 64))),Ys 64 6 6 28] (YR [2,3,4,5,6,7] [.norm [2,3,6,7]] [YL 29 8 3 3,Yo 7 (.alloc 7 (bg (qG 8))),Ys 8 7 7 29] (Yq (Yr [2,3,4,5,6,7,8] [Yc 8 0] (.block 2 (.loop zf))) zm)))) (.region [2,3,4,5] [.drop [6,7]] [Ym 21 5,YB 22 .add 21 64,Ym 5 22])
def zg:av:=
 Yq (Yr [2,3,4,5,20] [Ym 17 5,Ym 18 4,Yn 19 18,Yb 20 .lss 17 19] (Yd 20 (Yy [2,3,4,5]) (YY [2,3]))) ze
def yS:av:=
 Yq (.block 7 (.region [2,3,12,13] [.norm [2,3,6,7,12]] [Ym 135 13,Ym 136 13,YB 137 .quo 136 4,Ya 138 8 1 3 137,Yl 139 3 138,Ym 140 13,YB 141 .rem 140 4,Yo 142 (.bin .mul (.c (i64 8)) (.s 141)),Yo 143 (.bin .sub (.c (i64 24)) (.s 142)),Yb 144 .shr 139 143,YE 145 .u8 144,Ya 146 32 1 12 135,YS 12 146 145])) (Yu [2,3,12,13] [Ym 133 13,YB 134 .add 133 1,Ym 13 134])
def yR:av:=
 Yq (Yr [2,3,12,13,132] [Ym 131 13,YB 132 .lss 131 32] (Yd 132 (Yy [2,3,12,13]) (.ghost (.keep [2,12]) (.exit 6)))) yS
def yY:av:=
 YR [2] [.norm [2,3,6,7,12]] [YL 147 32 12 12,Ys 32 2 2 147] .ret
def y0:av:=
 YR [2,3,12] [.norm [2,3,6,7,12]] [Yz 12 12 32] (Yq (Yr [2,3,12,13] [Yc 13 0] (.block 6 (.loop yR))) yY)
def rU:nH:=
 {n:=1,wr:=[],res:=[.cell 2 (some 32) 2],body:=YR [2] [.norm [2]] [Yz 2 2 32] (YR [2,3] [.norm [2,3]] [Yo 14 (.build [u32 0,u32 0,u32 0,u32 0,u32 0,u32 0,u32 0,u32 0] [(0,1,.c (u32 1779033703)),(1,1,.c (u32 3144134277)),(2,1,.c (u32 1013904242)),(3,1,.c (u32 2773480762)),(4,1,.c (u32 1359893119)),(5,1,.c (u32 2600822924)),(6,1,.c (u32 528734635)),(7,1,.c (u32 1541459225))]),Yo 3 (.alloc 3 (bg (qG 8))),Ys 8 3 3 14] (Yr [2,3,4] [Ym 15 0,Yk 16 24 15,YM 4 16] (Yq (Yr [2,3,4,5] [Yc 5 0] (.block 0 (.loop zg))) y0)))}
def y9:av:=
 .block 1 (Yr [3,4] [YM 16 4,Ym 17 3,YB 18 .rem 17 256,YE 19 .u8 18,Yo 20 (.buildSl 1 1 [u8 0] [(0,1,.s 19)]),YN 21 1 1 16 20,YM 4 21] (Yu [3,4] [Ym 22 3,YB 23 .quo 22 256,Ym 3 23]))
def yV:av:=
 Yq (Yr [3,4,15] [Ym 14 3,YB 15 .gtr 14 0] (Yd 15 (Yy [3,4]) (YY [4]))) y9
def yU:av:=
 Yu [4,6,7] [YM 54 6,Ym 55 8,Yo 56 (.buildSl 1 1 [u8 0] [(0,1,.s 55)]),YN 57 1 1 54 56,YM 6 57]
def zt:av:=
 Yq (.block 3 (Yr [4,6,7,8] [Ym 46 4,Ym 47 7,Yi 48 1 46 47,Yj 49 48,Ym 8 49] (Yq (Yr [4,6,7,8,51] [Ym 50 0,YB 51 .lss 50 0] (Yd 51 (Yu [4,6,7,8] [Ym 52 8,Yo 53 (.bin .sub (.c (u8 255)) (.s 52)),Ym 8 53]) (Yy [4,6,7,8]))) yU))) (Yu [4,6,7] [Ym 44 7,YB 45 .sub 44 1,Ym 7 45])
def zB:av:=
 Yq (Yr [4,6,7,43] [Ym 42 7,YB 43 .geq 42 0] (Yd 43 (Yy [4,6,7]) (.ghost (.keep [6]) (.exit 2)))) zt
def yZ:av:=
 Yr [2] [YM 58 6,YM 2 58] .ret
def zA:av:=
 Yq (Yr [4,6,7] [Ym 40 5,YB 41 .sub 40 1,Ym 7 41] (.block 2 (.loop zB))) yZ
def zh:av:=
 Yr [4,5] [Ym 24 4,Yn 25 24,Ym 5 25] (Yr [4,5,6] [Yv 6 1] (Yq (Yr [4,5,6,27] [Ym 26 0,YB 27 .geq 26 0] (Yd 27 (Yu [4,5,6] [YM 28 6,Ym 29 5,Yo 30 (.bin .add (.c (i64 128)) (.s 29)),YE 31 .u8 30,Yo 32 (.buildSl 1 1 [u8 0] [(0,1,.s 31)]),YN 33 1 1 28 32,YM 6 33]) (Yu [4,5,6] [YM 34 6,Ym 35 5,Yo 36 (.bin .sub (.c (i64 127)) (.s 35)),YE 37 .u8 36,Yo 38 (.buildSl 1 1 [u8 0] [(0,1,.s 37)]),YN 39 1 1 34 38,YM 6 39]))) zA))
def zc:av:=
 Yr [3,4] [Yv 4 1] (Yq (.block 0 (.loop yV)) zh)
def rb:nH:=
 {n:=1,wr:=[],res:=[.t 2],body:=Yr [] [Yv 2 1] (Yr [3] [Ym 9 0,Ym 3 9] (Yq (Yr [3,11] [Ym 10 0,YB 11 .lss 10 0] (Yd 11 (Yu [3] [Ym 12 0,Yo 13 (.bin .sub (.c (i64 (-1))) (.s 12)),Ym 3 13]) (Yy [3]))) zc))}
end Go.Abs