/- Lemmas. -/
import Derived.Test.YtiehmnjjlbndlaaGreatDoorW
set_option linter.all false
namespace Go.Abs
set_option maxRecDepth 100000
@[simp] theorem lj(ids:List Nat)(f:Nat->List oH)(n:Int):eE ids f (i64 n)=i64 n:=rfl
@[simp] theorem gO(ids:List Nat)(f:Nat->List oH)(b:Bool):eE ids f (bo b)=bo b:=rfl
@[simp] theorem nM(ids:List Nat)(f:Nat->List oH)(s:List UInt8):eE ids f (st s)=st s:=rfl
theorem Aq{l:List Int}(h:∀x∈l,aO x)(hl:l.length<=1000000000):(qF l).length<=9*l.length+9:=by have e1:=rJ (n:=(l.length:Int)) (by constructor<;>omega);have e2:=pM h;rw[qF,List.length_append];omega
theorem z6Q{m:sy}(h:m.ok):(Ev m).length<=97:=by have h1:=Aq (GO h) (by simp[vn]);have h2:=h.2.2.2.2.2.2.2;rw[Ev,List.length_append,h2];simp only[vn,List.length_cons,List.length_nil] at h1⊢;omega
theorem E4:∀{l:List sy},z6 l->(l.flatMap Ev).length<=97*l.length
 |[],_=>by simp
 |a::l,h=>by have h1:=z6Q (h a (by simp));have h2:=E4 (l:=l) λm hm=>h m (by simp[hm]);rw[List.flatMap_cons,List.length_append,List.length_cons];omega
theorem PG{l:List Int}{n:Nat}{cs:List oH}(nl:Option Bool)(h:∀x∈l,aO x)(hl:l.length<=100000000)(hn:n=l.length)(hc:cs=rD l):xu.pre [.sl .plain nl n cs]=True:=by subst hn hc;exact IN hl h rfl
theorem Me{l:List Int}{n:Nat}{cs:List oH}(nl:Option Bool)(hc:cs=rD l):xu.post [.sl .plain nl n cs]= .sl (.own 1) (some false) (qF l).length (bys (qF l)):=by subst hc;rw[xu,CO];rfl
theorem QK{x:pm}(h:x.ok):∀z∈[x.time,x.kind,x.req,x.mode],aO z:=by obtain⟨h1,h2,h3,h4,_⟩:=h;intro z hz;simp only[List.mem_cons,List.not_mem_nil,or_false] at hz;rcases hz with rfl|rfl|rfl|rfl<;>assumption
def Xg(x:pm):List UInt8:=qF [x.time,x.kind,x.req,x.mode]++(mX (G0 x.cmd)++(x.dig++eU x.made.length))
theorem NM(x:pm):tL x=(Xg x++x.made.flatMap Ev)++qF x.gone:=by simp[tL,Xg]
theorem J0{x:pm}(h:x.small):(Xg x).length<=2000001000:=by have h1:=Aq (QK h.1) (by simp);have h2:=F3 h.2.1;have h3:=rJ (n:=((G0 x.cmd).length:Int)) (by constructor<;>omega);have h4:=rJ (n:=(x.made.length:Int)) (by have:=h.2.2.1;constructor<;>omega);have h5:=h.1.2.2.2.2.2.1;simp only[List.length_cons,List.length_nil] at h1;rw[Xg,mX];simp only[List.length_append,h5];omega
set_option maxHeartbeats 16000000 in
theorem XI(E:Env)(h39:E.G 39=xu)(h130:E.G 130=Hh)(h7:E.G 7=Dy)(h12:E.G 12=gx)(h129:E.G 129=uS):∀ds,G2.pre ds->ds.length=sU.n∧awp E sU.body (qH sU.res (G2.post ds)) (fP sU.wr ds):=by
 rintro _ ⟨nc,nm,ng,x,hx,rfl⟩;rw[Eg hx,NM];have hd:=hx.1.2.2.2.2.2.1;have h16:=hx.1.2.2.2.2.2.2.1;have hgo:=hx.1.2.2.2.2.2.2.2;have hml:=hx.2.2.1;have hgl:=hx.2.2.2;have hl:=uD (nc:=nc) (nm:=nm) (ng:=ng) hd;have h28:=Gy (nc:=nc) (nm:=nm) (ng:=ng) hd;have h29:=Gu (nc:=nc) (nm:=nm) (ng:=ng) hd;have hg:=FC (nc:=nc) (nm:=nm) (ng:=ng) hd;have hlen:=wW (sh h16);have hHl:=J0 hx;have hc2:=F3 hx.2.1;have hp4:xu.pre [.sl .plain (some false) 4 [i64 x.time,i64 x.kind,i64 x.req,i64 x.mode]]=True:=PG (some false) (QK hx.1) (by simp) rfl rfl;have hq4:xu.post [.sl .plain (some false) 4 [i64 x.time,i64 x.kind,i64 x.req,i64 x.mode]]=_:=Me (l:=[x.time,x.kind,x.req,x.mode]) (some false) rfl;have hpg:xu.pre [.sl .plain ng x.gone.length (rD x.gone)]=True:=PG ng hgo (by omega) rfl rfl;have hqg:xu.post [.sl .plain ng x.gone.length (rD x.gone)]=_:=Me (l:=x.gone) ng rfl;have hgle:=Aq hgo (by omega);have hib:=LW (n:=(x.made.length:Int)) (by omega) (by omega);have hcp:uS.pre [.sl .plain (some false) 4 [.sl (.own 1) (some false) (qF [x.time,x.kind,x.req,x.mode]).length (bys (qF [x.time,x.kind,x.req,x.mode])),.sl (.own 1) (some false) (mX (G0 x.cmd)).length (bys (mX (G0 x.cmd))),.sl .plain (some false) 16 (bys x.dig),.sl (.own 1) (some false) (eU x.made.length).length (bys (eU x.made.length))]]=True:=by
  have:=FI (nl:=some false) (n:=4) (ps:=[(true,some false,qF [x.time,x.kind,x.req,x.mode]),(true,some false,mX (G0 x.cmd)),(false,some false,x.dig),(true,some false,eU x.made.length)]) (by
   have e:=hHl;simp only[Xg,List.length_append] at e;simp only[z3k,List.map_cons,List.map_nil,List.sum_cons,List.sum_nil];omega) (by simp) rfl
  rw[<-hd];exact this
 have hcq:uS.post [.sl .plain (some false) 4 [.sl (.own 1) (some false) (qF [x.time,x.kind,x.req,x.mode]).length (bys (qF [x.time,x.kind,x.req,x.mode])),.sl (.own 1) (some false) (mX (G0 x.cmd)).length (bys (mX (G0 x.cmd))),.sl .plain (some false) 16 (bys x.dig),.sl (.own 1) (some false) (eU x.made.length).length (bys (eU x.made.length))]]= .sl (.own 1) none (Xg x).length (bys (Xg x)):=by have:=Ei (some false) 4 [(true,some false,qF [x.time,x.kind,x.req,x.mode]),(true,some false,mX (G0 x.cmd)),(false,some false,x.dig),(true,some false,eU x.made.length)];simp only[List.flatMap_cons,List.flatMap_nil,List.append_nil] at this;rw[<-hd];exact this
 generalize hH:Xg x=H at*
 generalize hG:qF x.gone=G at*
 generalize h4:qF [x.time,x.kind,x.req,x.mode]=e4 at*
 generalize hSS:mX (G0 x.cmd)=eS at*
 generalize hN:eU x.made.length=eN at*
 simp(maxSteps:=999999) (disch:=first|omega|simp<;>omega|rfl) [fJ,oG,oF,sU,hl,h39,hp4,hq4,h130,So hx.2.1,F6,h7,Gc,hSS,hg,h28,h12,hib,hN,h129,hcp,hcq,-oG,-List.length_append];refine oI λQ0 hQ0=> ?_;refine dH (λi:Nat=>⟨[(0,.agg (qf nc nm ng x))],[(1,.ep (qf nc nm ng x)),(3,.sl (.own 1) none (H++(x.made.take i).flatMap Ev).length (bys (H++(x.made.take i).flatMap Ev))),(31,.sl .plain nm x.made.length (se x.made)),(32,i64 x.made.length),(33,i64 i)],[]⟩)
  (λi=>x.made.length-i) (λi=>i<=x.made.length) 0 (by simp) (by simp) λi hi=> ?_
 refine oI λQ1 hQ1=> ?_;have hBl:(H++(x.made.take i).flatMap Ev).length<=2000001000+97*i:=by have:=E4 (l:=x.made.take i) λm hm=>h16 m (List.mem_of_mem_take hm);rw[List.length_append];rw[List.length_take] at this;omega
 by_cases h1:i<x.made.length
 ·have hm:=h16 _ (MZ h1);have hmd:=hm.2.2.2.2.2.2.2;have ha:=TW h16 h1;have hmll:=uc hmd;have hle:24<=x.made.length*24-i*24:=by omega
  have hle2:i*24<=x.made.length*24:=by omega
  have hs:(x.made.take (i+1)).flatMap Ev=(x.made.take i).flatMap Ev++Ev (atD x.made i):=by rw[List.take_succ_eq_append_getElem h1,List.flatMap_append,JJ h1];simp
  have hnok:=GO hm;have e8l:=Aq hnok (by simp[vn]);generalize hX:atD x.made i=X at*
  have sp:splice (i64 0::i64 0::i64 0::i64 0::i64 0::i64 0::i64 0::bo false::bys (bF 16)) 0 (uK X)=uK X:=U1 hmd rfl;have mtk:=z31 hmd;have nl8:(vn X).length=8:=rfl;rw[nl8] at e8l;have key:∀r:Int,z9U X.raw=r->xu.pre [.sl .plain (some false) 8 [i64 X.id,i64 X.ty,i64 X.uses,i64 X.beg,i64 X.fin,i64 X.ver,i64 X.par,i64 r]]=True∧
    xu.post [.sl .plain (some false) 8 [i64 X.id,i64 X.ty,i64 X.uses,i64 X.beg,i64 X.fin,i64 X.ver,i64 X.par,i64 r]]= .sl (.own 1) (some false) (qF (vn X)).length (bys (qF (vn X))):=by
   rintro r rfl;exact⟨PG (l:=vn X) (some false) hnok (by rw[nl8];omega) rfl rfl,Me (l:=vn X) (some false) rfl⟩
  have hcat:Ev X=qF (vn X)++X.dig:=rfl;generalize hE:qF (vn X)=e8 at*
  generalize hB:H++(x.made.take i).flatMap Ev=B at*
  have hcp8:uS.pre [.sl .plain (some false) 3 [.sl (.own 1) none B.length (bys B),.sl (.own 1) (some false) e8.length (bys e8),.sl .plain (some false) 16 (bys X.dig)]]=True:=by
   have:=FI (nl:=some false) (n:=3) (ps:=[(true,none,B),(true,some false,e8),(false,some false,X.dig)]) (by
    simp only[z3k,List.map_cons,List.map_nil,List.sum_cons,List.sum_nil];omega) (by simp) rfl
   rw[<-hmd];exact this
  have hcq8:uS.post [.sl .plain (some false) 3 [.sl (.own 1) none B.length (bys B),.sl (.own 1) (some false) e8.length (bys e8),.sl .plain (some false) 16 (bys X.dig)]]= .sl (.own 1) none (B++Ev X).length (bys (B++Ev X)):=by have:=Ei (some false) 3 [(true,none,B),(true,some false,e8),(false,some false,X.dig)];simp only[List.flatMap_cons,List.flatMap_nil,List.append_nil] at this;rw[<-hmd,hcat];exact this
  have hs':H++(x.made.take (i+1)).flatMap Ev=B++Ev X:=by rw[hs,<-List.append_assoc,hB]
  generalize hBX:B++Ev X=B' at*
  cases hr:X.raw
  ·obtain⟨k1,k2⟩:=key 0 (by rw[hr];rfl);simp(maxSteps:=999999) (disch:=first|omega|simp<;>omega|rfl) [fJ,oG,oF,uV,yv,yF,kT,kF,dT,dF,h1,hlen,hle,hle2,ha,sp,hmll,mtk,EI,Hi,hr,h39,k1,k2,h129,hcp8,hcq8,z1ia hmd,hmd,hQ1,-oG,-List.length_append];exact⟨i+1,by omega,by omega,⟨by rw[hs'],by rw[hs']⟩,by omega⟩
  obtain⟨k1,k2⟩:=key 1 (by rw[hr];rfl);simp(maxSteps:=999999) (disch:=first|omega|simp<;>omega|rfl) [fJ,oG,oF,uV,yv,yF,kT,kF,dT,dF,h1,hlen,hle,hle2,ha,sp,hmll,mtk,EI,Hi,hr,h39,k1,k2,h129,hcp8,hcq8,z1ia hmd,hmd,hQ1,-oG,-List.length_append];exact⟨i+1,by omega,by omega,⟨by rw[hs'],by rw[hs']⟩,by omega⟩
 obtain rfl:i=x.made.length:=by omega
 rw[List.take_length] at*
 generalize hB:H++x.made.flatMap Ev=B at*
 simp(maxSteps:=999999) (disch:=first|omega|simp<;>omega|rfl) [fJ,oG,oF,uV,kT,kF,dT,dF,hQ1,hQ0,Cq,hl,h29,h39,hpg,hqg,-List.length_append];exact⟨by omega,List.length_append,by rw[<-hB,List.append_assoc]⟩
theorem z3e(E:Env)(h302:E.G 302=G2)(h8:E.G 8=ofC):∀ds,C7.pre ds->ds.length=te.n∧awp E te.body (qH te.res (C7.post ds)) (fP te.wr ds):=by
 rintro _ ⟨nc,nm,ng,x,hx,rfl⟩;rw[D5 hx];have hd:=hx.1.2.2.2.2.2.1;have hl:=uD (nc:=nc) (nm:=nm) (ng:=ng) hd;have htk:=T3 (nc:=nc) (nm:=nm) (ng:=ng) hd;have hle:(tL x).length<=2200000000:=by have h1:=J0 hx;have h2:=E4 hx.1.2.2.2.2.2.2.1;have h3:=Aq hx.1.2.2.2.2.2.2.2 (by have:=hx.2.2.2;omega);have h4:=hx.2.2.1;have h5:=hx.2.2.2;rw[NM,List.length_append,List.length_append];omega
 have hp:ofC.pre [i64 8,.sl .plain (some false) 1 [st (tL x)]]=True:=z3ba (l:=[tL x]) rfl (by rw[tot1];omega);simp(maxSteps:=999999) (disch:=first|omega|simp<;>omega|rfl) [fJ,oG,oF,te,hl,htk,h302,Mb hx,Eg hx,h8,hp,aU,bV,pB,oM,pG]
def G8:av:=
 Yd 20 (.region [2,4] [.norm [2,13]] [Ym 21 5,YI 22 1 21 0,Yj 23 22,Ym 24 5,YI 25 1 24 1,Yj 26 25,Ym 27 5,YI 28 1 27 2,Yj 29 28,Ym 30 5,YI 31 1 30 3,Yj 32 31,Yo 33 (.build (List.replicate 10 (i64 0)++[st []]++[.sl .plain none 0 []]++bys (bF 16)++[.sl .plain (some true) 0 []]++[.sl .plain none 0 []]) [(0,1,.s 23),(1,1,.s 26),(2,1,.s 29),(3,1,.s 32)]),Ys 30 2 2 33]) (Yy [2,4])
def Ge:av:=
 Yd 53 (Yy [2,4,7,8]) (YY [2,4])
def F1:av:=
 Yd 70 (.region [2,4,7,8] [.norm [2,13]] [Yf 71 28 2,Yo 72 (.load none (some 2) true (.s 71)),Ym 73 9,YI 74 1 73 0,Yj 75 74,Ym 76 9,YI 77 1 76 1,Yj 78 77,Ym 79 9,YI 80 1 79 2,Yj 81 80,Ym 82 9,YI 83 1 82 3,Yj 84 83,Ym 85 9,YI 86 1 85 4,Yj 87 86,Ym 88 9,YI 89 1 88 5,Yj 90 89,Ym 91 9,YI 92 1 91 6,Yj 93 92,Ym 94 9,YI 95 1 94 7,Yj 96 95,YB 97 .eql 96 1,Ym 98 4,Yo 99 (.callm 325 none [.s 98,.c (.fn 320 [] [])] [(0,13)] []),Yo 100 (.build (List.replicate 7 (i64 0)++[bo false]++bys (bF 16)) [(0,1,.s 75),(1,1,.s 78),(2,1,.s 81),(3,1,.s 84),(4,1,.s 87),(5,1,.s 90),(6,1,.s 93),(7,1,.s 97),(8,16,.s 99)]),Yo 101 (.buildSl 24 1 [i64 0,i64 0,i64 0,i64 0,i64 0,i64 0,i64 0,bo false,u8 0,u8 0,u8 0,u8 0,u8 0,u8 0,u8 0,u8 0,u8 0,u8 0,u8 0,u8 0,u8 0,u8 0,u8 0,u8 0] [(0,24,.s 100)]),YN 102 24 80 72 101,Yf 103 28 2,YS 2 103 102]) (Yy [2,4,7,8])
def GF:av:=
 YR [2,4,7,8,9,70] [.norm [2,13],.reB 2 28 (some 24),.norm [2,13]] [Ym 58 4,Ym 59 9,Yn 60 59,YB 61 .eql 60 8,Yo 62 (.callm 316 none [.s 58,.s 61,.c (i64 6)] [(0,13)] []),Ym 63 62,YG 63 (Ym 64 4),YG 63 (Ym 65 9),YG 63 (YI 66 1 65 7),YG 63 (Yj 67 66),YG 63 (YD 68 295 67 0 1),YG 63 (Yo 69 (.callm 316 none [.s 64,.s 68,.c (i64 6)] [(0,13)] [])),Yp 70 63 69] F1
def Gr:av:=
 Yq (.block 1 (YR [2,4,7,8,9] [.norm [2,13]] [Ym 56 4,Yo 57 (.callm 323 none [.s 56,.c (.fn 52 [] [])] [(0,13)] []),YM 9 57] GF)) (Yu [2,4,7,8] [Ym 54 8,YB 55 .add 54 1,Ym 8 55])
def Hx:av:=
 Yq (YR [2,4,7,8,53] [.norm [2,13]] [Ym 45 4,Ym 46 7,YD 47 295 46 0 4096,Yo 48 (.callm 316 none [.s 45,.s 47,.c (i64 6)] [(0,13)] []),Ym 49 48,YG 49 (Ym 50 8),YG 49 (Ym 51 7),YG 49 (Yb 52 .lss 50 51),Yp 53 49 52] Ge) Gr
def HP:av:=
 .block 0 (.loop Hx)
def GL:av:=
 Yd 119 (YR [2,3] [.norm [2,13]] [Yo 120 (.build (List.replicate 10 (i64 0)++[st []]++[.sl .plain none 0 []]++bys (bF 16)++[.sl .plain none 0 []]++[.sl .plain none 0 []]) []),Ym 121 4,YV 122 121,Yf 123 1 122,Yl 124 13 123,Ys 30 2 2 120,Ym 3 124] .ret) (Yy [2])
def Gw:av:=
 YR [2,3] [.norm [2,13]] [YL 125 30 2 2,Ys 30 2 2 125,Yc 3 0] .ret
def Gz:av:=
 Yq (YR [2,4,119] [.norm [2,13]] [Ym 107 4,Ym 108 4,YV 109 108,Yf 110 0 109,Yl 111 13 110,Yn 112 111,YB 113 .eql 112 0,Ym 114 113,YG 114 (YL 115 30 2 2),YG 114 (Yk 116 300 115),Yp 117 114 116,Yo 118 (.callm 316 none [.s 107,.s 117,.c (i64 6)] [(0,13)] []),YU 119 .not 118] GL) Gw
def GY:av:=
 YR [2,4] [.norm [2,13]] [Ym 104 4,Yo 105 (.callm 323 none [.s 104,.c (.fn 52 [] [])] [(0,13)] []),Yf 106 29 2,YO (.store none 2 true (.s 106) (.s 105))] Gz
def H0:av:=
 Yq (Yr [2,4,7,8] [Yc 8 0] HP) GY
def Hz:av:=
 YR [2,4,7] [.norm [2,13]] [Ym 43 4,Yo 44 (.callm 326 none [.s 43,.c (.fn 45 [] [])] [(0,13)] []),Ym 7 44] H0
def HB:av:=
 YR [2,4] [.norm [2,13]] [Ym 40 4,Yo 41 (.callm 325 none [.s 40,.c (.fn 320 [] [])] [(0,13)] []),Yf 42 12 2,Ys 16 2 42 41] Hz
def HW:av:=
 YR [2,4] [.norm [2,13]] [Ym 36 4,Ym 37 6,Yo 38 (.callm 318 none [.s 36,.s 37] [(0,13)] []),Yf 39 4 2,Ys 8 2 39 38] HB
def HH:av:=
 YR [2,4,6] [.norm [2,13]] [Ym 34 4,Yo 35 (.callm 324 none [.s 34,.c (.fn 48 [] [])] [(0,13)] []),Ym 6 35] HW
def HA:av:=
 Yq (YR [2,4,5,20] [.norm [2,13]] [Ym 16 4,Ym 17 5,Yn 18 17,YB 19 .eql 18 4,Yo 20 (.callm 316 none [.s 16,.s 19,.c (i64 6)] [(0,13)] [])] G8) HH
def HF:av:=
 YR [2,4,5] [.norm [2,13]] [Ym 14 4,Yo 15 (.callm 323 none [.s 14,.c (.fn 52 [] [])] [(0,13)] []),YM 5 15] HA
def Hd:av:=
 YR [2,4] [.norm [2,13]] [Ym 10 0,Yo 11 (.toBytes (.s 10)),Yo 12 (.build [.sl .plain none 0 [],i64 0] [(0,1,.s 11)]),Yx 13 13 2 12,Ym 4 13] HF
def KR:nH:=
 {n:=1,wr:=[],res:=[.cell 2 (some 30) 2,.t 3],body:=YR [2] [.norm [2]] [Yo 2 (.alloc 2 (List.replicate 10 (i64 0)++[st []]++[.sl .plain none 0 []]++bys (bF 16)++[.sl (.own 24) none 0 []]++[.sl (.own 1) none 0 []])),Yc 3 0] Hd}
def Ap:av:=
 Yd 12 (Yr [0,4] [YM 13 4,YM 4 13] .ret) (Yy [0,1,4])
def Ao:av:=
 Yr [0,4] [YM 30 4,YM 4 30] .ret
def Aw:av:=
 Yd 25 (YR [0,4] [.norm [0]] [Ym 26 0,Ym 27 7,YV 28 26,Yf 29 1 28,YS 0 29 27] Ao) (Yy [0,5,6])
def Av:av:=
 Yr [0,4] [YM 40 5,YM 4 40] .ret
def At:av:=
 YR [0,5] [.norm [0]] [Ym 31 0,Ym 32 0,YV 33 32,Yf 34 0 33,Yl 35 0 34,Ym 36 6,YF 37 1 35 36,YV 38 31,Yf 39 0 38,YO (.store none 0 true (.s 39) (.s 37))] Av
def Ad:av:=
 Yq (Yr [0,4,5,6,7,25] [Ym 24 7,YB 25 .neq 24 0] Aw) At
def Ac:av:=
 YR [0,4,5,6,7] [.norm [0]] [Ym 15 1,Ym 16 0,YV 17 16,Yf 18 0 17,Yl 19 0 18,Yo 20 (.callv 52 (.s 15) [.s 19] []),Ym 14 20,Ye 21 0 14,Ye 22 1 14,Ye 23 2 14,YM 5 21,Ym 6 22,Ym 7 23] Ad
def Ak:av:=
 Yq (YR [0,1,4,12] [.norm [0]] [Ym 8 0,YV 9 8,Yf 10 1 9,Yl 11 0 10,YB 12 .neq 11 0] Ap) Ac
def rK:nH:=
 {n:=2,wr:=[],res:=[.t 4],body:=Yr [0,1,4] [Yv 4 1] Ak}
def Dv:av:=
 Yd 15 (.region [0] [.norm [0]] [Ym 16 0,Ym 17 2,YV 18 16,Yf 19 1 18,YS 0 19 17]) (Yy [0])
def Dh:av:=
 YR [0,6] [.norm [0]] [Ym 20 0,YV 21 20,Yf 22 1 21,Yl 23 0 22,YB 24 .eql 23 0,Ym 6 24] .ret
def Df:av:=
 Yq (YR [0,2,15] [.norm [0]] [Ym 7 0,YV 8 7,Yf 9 1 8,Yl 10 0 9,YB 11 .eql 10 0,Ym 12 11,YG 12 (Ym 13 1),YG 12 (YU 14 .not 13),Yp 15 12 14] Dv) Dh
def tf:nH:=
 {n:=3,wr:=[],res:=[.t 6],body:=Yr [0,1,2] [Yw 6 false] Df}
def zF:av:=
 Yd 12 (Yr [0,4] [Ym 13 4,Ym 4 13] .ret) (Yy [0,1,4])
def zC:av:=
 Yr [0,4] [Ym 30 4,Ym 4 30] .ret
def zR:av:=
 Yd 25 (YR [0,4] [.norm [0]] [Ym 26 0,Ym 27 7,YV 28 26,Yf 29 1 28,YS 0 29 27] zC) (Yy [0,5,6])
def zH:av:=
 Yr [0,4] [Ym 40 5,Ym 4 40] .ret
def zI:av:=
 YR [0,5] [.norm [0]] [Ym 31 0,Ym 32 0,YV 33 32,Yf 34 0 33,Yl 35 0 34,Ym 36 6,YF 37 1 35 36,YV 38 31,Yf 39 0 38,YO (.store none 0 true (.s 39) (.s 37))] zH
def zK:av:=
 Yq (Yr [0,4,5,6,7,25] [Ym 24 7,YB 25 .neq 24 0] zR) zI
def zO:av:=
 YR [0,4,5,6,7] [.norm [0]] [Ym 15 1,Ym 16 0,YV 17 16,Yf 18 0 17,Yl 19 0 18,Yo 20 (.callv 48 (.s 15) [.s 19] []),Ym 14 20,Ye 21 0 14,Ye 22 1 14,Ye 23 2 14,Ym 5 21,Ym 6 22,Ym 7 23] zK
def zG:av:=
 Yq (YR [0,1,4,12] [.norm [0]] [Ym 8 0,YV 9 8,Yf 10 1 9,Yl 11 0 10,YB 12 .neq 11 0] zF) zO
def rr:nH:=
 {n:=2,wr:=[],res:=[.t 4],body:=Yr [0,1,4] [Yo 4 (.mv false (.c (st [])))] zG}
def B7:av:=
 .region [0,4,5,22,23,24] [.norm [0,4,15,22]] [Ym 28 7,Ym 29 5,Yo 30 (.callm 326 none [.s 29,.c (.fn 45 [] [])] [(0,15)] []),YV 31 28,YS 4 31 30]
def B2:av:=
 Yq (.block 1 (YR [0,4,5,7,22,23,24] [.norm [0,4,15,22]] [Yi 26 1 22 24,Yl 27 22 26,Ym 7 27] B7)) (Yu [0,4,5,22,23,24] [YB 32 .add 24 1,Ym 24 32])
def Cn:av:=
 Yq (Yd 25 (Yy [0,4,5,22,23,24]) (YY [0,4,5])) B2
def B4:av:=
 Yr [0,4,5,22,23,24,25] [Yb 25 .lss 24 23] Cn
def B5:av:=
 .block 0 (.loop B4)
def Bn:av:=
 YR [0,4] [.norm [0,4,15,22]] [YL 54 8 4 4,Ys 8 4 4 54] .ret
def Ck:av:=
 YR [0,4] [.norm [0,4,15,22]] [Ym 47 0,Ym 48 5,YV 49 48,Yf 50 1 49,Yl 51 15 50,YV 52 47,Yf 53 1 52,YS 0 53 51] Bn
def B3:av:=
 YR [0,4,5] [.norm [0,4,15,22]] [Ym 39 5,Ym 40 5,YV 41 40,Yf 42 0 41,Yl 43 15 42,Yn 44 43,YB 45 .eql 44 0,Yo 46 (.callm 316 none [.s 39,.s 45,.c (i64 6)] [(0,15)] [])] Ck
def Ca:av:=
 YR [0,4,5] [.norm [0,4,15,22]] [Ym 36 5,Yo 37 (.callm 323 none [.s 36,.c (.fn 52 [] [])] [(0,15)] []),Yf 38 7 4,YO (.store none 4 true (.s 38) (.s 37))] B3
def Ch:av:=
 YR [0,4,5] [.norm [0,4,15,22]] [Ym 33 5,Yo 34 (.callm 324 none [.s 33,.c (.fn 48 [] [])] [(0,15)] []),Yf 35 6 4,YS 4 35 34] Ca
def Cm:av:=
 Yq (YR [0,4,5,22,23,24] [.norm [0,4,15,22]] [Yf 16 0 4,Yf 17 1 4,Yf 18 2 4,Yf 19 3 4,Yf 20 4 4,Yf 21 5 4,Yo 22 (.buildBx 22 1 6 [.lit (.pointer none),.lit (.pointer none),.lit (.pointer none),.lit (.pointer none),.lit (.pointer none),.lit (.pointer none)] [(0,1,.s 16),(1,1,.s 17),(2,1,.s 18),(3,1,.s 19),(4,1,.s 20),(5,1,.s 21)]),Yn 23 22,Yc 24 0] B5) Ch
def Ci:av:=
 YR [0,4,5] [.norm [0,4,15]] [Ym 8 1,Yo 9 (.toBytes (.s 8)),Ym 10 0,YV 11 10,Yf 12 1 11,Yl 13 0 12,Yo 14 (.build [.sl .plain none 0 [],i64 0] [(0,1,.s 9),(1,1,.s 13)]),Yx 15 15 2 14,Ym 5 15] Cm
def sE:nH:=
 {n:=2,wr:=[],res:=[.cell 4 (some 8) 4],body:=YR [0,1,4] [.norm [0,4]] [Yo 4 (.alloc 4 (List.replicate 6 (i64 0)++[st []]++[.sl .plain none 0 []]))] Ci}
def Ah:av:=
 Yd 12 (YR [0,4] [.norm [0,4]] [YL 13 16 4 4,Ys 16 4 4 13] .ret) (Yy [0,1,4])
def Aj:av:=
 YR [0,4] [.norm [0,4,5]] [YL 30 16 4 4,Ys 16 4 4 30] .ret
def z8:av:=
 Yd 25 (YR [0,4] [.norm [0,4,5]] [Ym 26 0,Ym 27 7,YV 28 26,Yf 29 1 28,YS 0 29 27] Aj) (Yy [0,4,5,6])
def z7:av:=
 YR [0,4] [.norm [0,4,5]] [YL 40 16 5 5,Ys 16 4 4 40] .ret
def Au:av:=
 YR [0,4,5] [.norm [0,4,5]] [Ym 31 0,Ym 32 0,YV 33 32,Yf 34 0 33,Yl 35 0 34,Ym 36 6,YF 37 1 35 36,YV 38 31,Yf 39 0 38,YO (.store none 0 true (.s 39) (.s 37))] z7
def As:av:=
 Yq (Yr [0,4,5,6,7,25] [Ym 24 7,YB 25 .neq 24 0] z8) Au
def Al:av:=
 YR [0,4,5,6,7] [.norm [0,4,5]] [Ym 15 1,Ym 16 0,YV 17 16,Yf 18 0 17,Yl 19 0 18,Yo 20 (.callv 320 (.s 15) [.s 19] []),Ym 14 20,Ye 21 0 14,Ye 22 1 14,Ye 23 2 14,Yz 5 5 16,Ys 16 5 5 21,Ym 6 22,Ym 7 23] As
def Ae:av:=
 Yq (YR [0,1,4,12] [.norm [0,4]] [Ym 8 0,YV 9 8,Yf 10 1 9,Yl 11 0 10,YB 12 .neq 11 0] Ah) Al
def rH:nH:=
 {n:=2,wr:=[],res:=[.cell 4 (some 16) 4],body:=YR [0,1,4] [.norm [0,4]] [Yz 4 4 16] Ae}
def G6:av:=
 Yd 7 (YR [2,3,4] [.norm [2]] [YL 8 16 2 2,Ys 16 2 2 8,Yc 3 0,Yc 4 5] .ret) (Yy [2])
def HO:av:=
 YR [2,3,4] [.norm [2]] [Ym 9 0,Yo 10 (.slSl 1 (.s 9) none (some (.c (i64 16))) none),Yo 11 (.s2ap 16 (.s 10)),YJ 12 16 11,Ys 16 2 2 12,Yc 3 16,Yc 4 0] .ret
def Hj:av:=
 Yq (Yr [2,7] [Ym 5 0,Yn 6 5,YB 7 .lss 6 16] G6) HO
def KB:nH:=
 {n:=1,wr:=[],res:=[.cell 2 (some 16) 2,.t 3,.t 4],body:=YR [2] [.norm [2]] [Yz 2 2 16,Yc 3 0,Yc 4 0] Hj}
def Bf:av:=
 Yd 12 (Yr [0,4] [Ym 13 4,Ym 4 13] .ret) (Yy [0,1,4])
def Bc:av:=
 Yr [0,4] [Ym 30 4,Ym 4 30] .ret
def AO:av:=
 Yd 25 (YR [0,4] [.norm [0]] [Ym 26 0,Ym 27 7,YV 28 26,Yf 29 1 28,YS 0 29 27] Bc) (Yy [0,5,6])
def AR:av:=
 Yr [0,4] [Ym 40 5,Ym 4 40] .ret
def AQ:av:=
 YR [0,5] [.norm [0]] [Ym 31 0,Ym 32 0,YV 33 32,Yf 34 0 33,Yl 35 0 34,Ym 36 6,YF 37 1 35 36,YV 38 31,Yf 39 0 38,YO (.store none 0 true (.s 39) (.s 37))] AR
def Bd:av:=
 Yq (Yr [0,4,5,6,7,25] [Ym 24 7,YB 25 .neq 24 0] AO) AQ
def AW:av:=
 YR [0,4,5,6,7] [.norm [0]] [Ym 15 1,Ym 16 0,YV 17 16,Yf 18 0 17,Yl 19 0 18,Yo 20 (.callv 45 (.s 15) [.s 19] []),Ym 14 20,Ye 21 0 14,Ye 22 1 14,Ye 23 2 14,Ym 5 21,Ym 6 22,Ym 7 23] Bd
def A4:av:=
 Yq (YR [0,1,4,12] [.norm [0]] [Ym 8 0,YV 9 8,Yf 10 1 9,Yl 11 0 10,YB 12 .neq 11 0] Bf) AW
def rV:nH:=
 {n:=2,wr:=[],res:=[.t 4],body:=Yr [0,1,4] [Yc 4 0] A4}
def M32:Nat:=4294967296
def rx(y n:Nat):Nat:=Nat.shiftRight y n
def dbl(x:Nat):Nat:=Nat.mul 4294967297 x
theorem Gf(x:UInt32){n:Nat}(hn:n<=32):(dN x n).toNat=rx (dbl x.toNat) n% 2^32:=by
 have hx:=x.toNat_lt;have e1:(dN x n).toNat=(x.toNat>>>n)|||((x.toNat<<<(32-n))% 2^32):=by rw[dN,UInt32.toNat_or];show(x.toBitVec>>>n).toNat|||(x.toBitVec<<<(32-n)).toNat=_;rw[BitVec.toNat_ushiftRight,BitVec.toNat_shiftLeft];rfl
 have e2:rx (dbl x.toNat) n=(2^32*x.toNat+x.toNat)>>>n:=by show(4294967297*x.toNat)>>>n=_;congr 1;omega
 rw[e1,e2];apply Nat.eq_of_testBit_eq;intro i;rw[Nat.testBit_or,Nat.testBit_shiftRight,Nat.testBit_mod_two_pow,Nat.testBit_shiftLeft,Nat.testBit_mod_two_pow,Nat.testBit_shiftRight,Nat.testBit_two_pow_mul_add _ hx];by_cases hi:i<32
 ·by_cases h:n+i<32
  ·have h0:¬32-n<=i:=by omega
   simp[hi,h,h0]
  have h0:32-n<=i:=by omega
  have hf:x.toNat.testBit (n+i)=false:=Nat.testBit_lt_two_pow (Nat.lt_of_lt_of_le hx (Nat.pow_le_pow_right (by decide) (by omega)));simp[hi,h,h0,hf];congr 1;omega
 have hf:x.toNat.testBit (n+i)=false:=Nat.testBit_lt_two_pow (Nat.lt_of_lt_of_le hx (Nat.pow_le_pow_right (by decide) (by omega)));simp[hi,hf]
def xo3(y i j k:Nat):Nat:=Nat.mod (Nat.xor (Nat.xor (rx y i) (rx y j)) (rx y k)) M32
theorem z7o(x:UInt32){i j k:Nat}(hi:i<=32)(hj:j<=32)(hk:k<=32):(dN x i^^^dN x j^^^dN x k).toNat=xo3 (dbl x.toNat) i j k:=by rw[UInt32.toNat_xor,UInt32.toNat_xor,Gf x hi,Gf x hj,Gf x hk];show _=((rx (dbl x.toNat) i^^^rx (dbl x.toNat) j)^^^rx (dbl x.toNat) k)% 2^32;rw[Nat.xor_mod_two_pow,Nat.xor_mod_two_pow]
def xo2(x y i j k:Nat):Nat:=Nat.xor (Nat.mod (Nat.xor (rx y i) (rx y j)) M32) (Nat.shiftRight x k)
theorem z2o(x:UInt32){i j:Nat}(k:Nat)(hi:i<=32)(hj:j<=32):(dN x i^^^dN x j^^^Mn x k).toNat=xo2 x.toNat (dbl x.toNat) i j k:=by rw[UInt32.toNat_xor,UInt32.toNat_xor,Gf x hi,Gf x hj];show _=((rx (dbl x.toNat) i^^^rx (dbl x.toNat) j)% 2^32)^^^(x.toNat>>>k);rw[Nat.xor_mod_two_pow];rfl
structure N8 where
 a:Nat
 b:Nat
 c:Nat
 d:Nat
 e:Nat
 f:Nat
 g:Nat
 h:Nat
def toN(s:H8):N8:=⟨s.a.toNat,s.b.toNat,s.c.toNat,s.d.toNat,s.e.toNat,s.f.toNat,s.g.toNat,s.h.toNat⟩
def z6pa(k w:Nat)(s:N8):N8:=
 (λx y=>N8.mk (Nat.mod (Nat.add x y) M32) s.a s.b s.c (Nat.mod (Nat.add s.d x) M32) s.e s.f s.g)
  (Nat.add (Nat.add (Nat.add (Nat.add s.h (xo3 (dbl s.e) 6 11 25)) (Nat.xor (Nat.land s.e s.f) (Nat.land (Nat.sub 4294967295 s.e) s.g))) k) w)
  (Nat.add (xo3 (dbl s.a) 2 13 22) (Nat.xor (Nat.xor (Nat.land s.a s.b) (Nat.land s.a s.c)) (Nat.land s.b s.c)))
theorem z3ra(k w:UInt32)(s:H8):toN (rnd k w s)=z6pa k.toNat w.toNat (toN s):=by
 have h1:=z7o s.e (i:=6) (j:=11) (k:=25) (by decide) (by decide) (by decide);have h2:=z7o s.a (i:=2) (j:=13) (k:=22) (by decide) (by decide) (by decide);have h3:(~~~s.e).toNat=4294967295-s.e.toNat:=by rw[UInt32.toNat_not];rfl
 simp only[toN,rnd,z6pa,N8.mk.injEq,and_true,true_and];rw[<-h1,<-h2];generalize(dN s.e 6^^^dN s.e 11^^^dN s.e 25)=S1;generalize(dN s.a 2^^^dN s.a 13^^^dN s.a 22)=S0;simp only[UInt32.toNat_add,UInt32.toNat_xor,UInt32.toNat_and,h3];show _=(_+_+((s.e.toNat&&&s.f.toNat)^^^((4294967295-s.e.toNat)&&&s.g.toNat))+_+_+(_+((s.a.toNat&&&s.b.toNat)^^^(s.a.toNat&&&s.c.toNat)^^^(s.b.toNat&&&s.c.toNat))))% M32∧_=(s.d.toNat+(_+_+((s.e.toNat&&&s.f.toNat)^^^((4294967295-s.e.toNat)&&&s.g.toNat))+_+_))% M32;simp only[M32];omega
def Tf:List Nat->List Nat->N8->N8
 |[],_,s=>s
 |_::_,[],s=>s
 |k::ks,w::ws,s=>Tf ks ws (z6pa k w s)
theorem KX(k w:Nat):∀(ks ws:List Nat) (s:N8),ks.length=ws.length->Tf (ks++[k]) (ws++[w]) s=z6pa k w (Tf ks ws s)
 |[],[],s,_=>rfl
 |[],_::_,_,h=>by simp at h
 |_::_,[],_,h=>by simp at h
 |k'::ks,w'::ws,s,h=>by simp only[List.cons_append,Tf];exact KX k w ks ws _ (by simpa using h)
def n32(l:List UInt32):List Nat:=l.map UInt32.toNat
theorem z1q{l:List UInt32}{i:Nat}(h:i<l.length):l.take (i+1)=l.take i++[bJ l i]:=by rw[List.take_succ_eq_append_getElem h,bJ,List.getD,List.getElem?_eq_getElem h];rfl
theorem z4p(w:List UInt32)(s:H8)(hw:w.length=64):∀t,t<=64->toN (Kp w s t)=Tf (n32 (kc.take t)) (n32 (w.take t)) (toN s)
 |0,_=>rfl
 |t+1,h=>by
  have hk:kc.length=64:=rfl;have e1:n32 (kc.take (t+1))=n32 (kc.take t)++[(bJ kc t).toNat]:=by rw[z1q (l:=kc) (by omega)];simp[n32]
  have e2:n32 (w.take (t+1))=n32 (w.take t)++[(bJ w t).toNat]:=by rw[z1q (l:=w) (by omega)];simp[n32]
  rw[Kp,z3ra,z4p w s hw t (by omega),e1,e2];exact(KX _ _ _ _ _ (by simp[n32];omega)).symm
def z2na:Nat->List Nat->List Nat
 |0,acc=>acc
 |n+1,acc=>z2na n ((λp q=>Nat.mod (Nat.add (Nat.add (Nat.add (acc.getD 15 0) (xo2 p (dbl p) 7 18 3)) (acc.getD 6 0)) (xo2 q (dbl q) 17 19 10)) M32) (acc.getD 14 0) (acc.getD 1 0)::acc)
theorem RR(w:List UInt32){i:Nat}(h:i<w.length):(n32 w.reverse).getD i 0=(bJ w (w.length-1-i)).toNat:=by rw[n32,List.getD,List.getElem?_map,List.getElem?_eq_getElem (by simpa using h),List.getElem_reverse,bJ,List.getD,List.getElem?_eq_getElem (by omega)];rfl
theorem Vk(b:List UInt8):∀(n t:Nat),16<=t->z2na n (n32 (qX b t).reverse)=n32 (qX b (t+n)).reverse
 |0,_,_=>rfl
 |n+1,t,ht=>by
  have hl:=sT b t;rw[z2na,RR _ (by omega),RR _ (by omega),RR _ (by omega),RR _ (by omega),hl];have hs:n32 (qX b (t+1)).reverse=(KA b t (qX b t)).toNat::n32 (qX b t).reverse:=by simp[qX,n32]
  have e:(KA b t (qX b t)).toNat=Nat.mod (Nat.add (Nat.add (Nat.add (bJ (qX b t) (t-1-15)).toNat (xo2 (bJ (qX b t) (t-1-14)).toNat (dbl (bJ (qX b t) (t-1-14)).toNat) 7 18 3)) (bJ (qX b t) (t-1-6)).toNat) (xo2 (bJ (qX b t) (t-1-1)).toNat (dbl (bJ (qX b t) (t-1-1)).toNat) 17 19 10)) M32:=by rw[KA,if_neg (by omega),sg0,sg1,UInt32.toNat_add,UInt32.toNat_add,UInt32.toNat_add,z2o _ 3 (by decide) (by decide),z2o _ 10 (by decide) (by decide)];simp only[Nat.sub_sub];show _=(_+_+_+_)% M32;simp only[M32,Nat.reduceAdd];omega
  have e':=(congrArg (· ::n32 (qX b t).reverse) e).symm.trans hs.symm;have h':=Vk b n (t+1) (by omega);rw[<-e',Nat.add_assoc,Nat.add_comm 1 n] at h';exact h'
def wd(b:List UInt8)(t:Nat):Nat:=Nat.add (Nat.mul 256 (Nat.add (Nat.mul 256 (Nat.add (Nat.mul 256 (at8 b (4*t)).toNat) (at8 b (4*t+1)).toNat)) (at8 b (4*t+2)).toNat)) (at8 b (4*t+3)).toNat
theorem or8{x:UInt32}{N:Nat}(hx:x.toNat=N)(hN:N<16777216)(c:UInt8):(eD x 8|||c.toUInt32).toNat=256*N+c.toNat:=by subst hx;have hc:=c.toNat_lt;rw[UInt32.toNat_or];show((x.toBitVec<<<8).toNat|||c.toUInt32.toNat)=_;rw[BitVec.toNat_shiftLeft,UInt8.toNat_toUInt32];show(x.toNat<<<8% 2^32|||c.toNat)=_;rw[Nat.mod_eq_of_lt (by rw[Nat.shiftLeft_eq];omega),<-Nat.shiftLeft_add_eq_or_of_lt (by omega),Nat.shiftLeft_eq];omega
theorem z6ya(b:List UInt8)(t:Nat):(ldw b t 4).toNat=wd b t:=by
 have h0:=(at8 b (4*t)).toNat_lt;have h1:=(at8 b (4*t+1)).toNat_lt;have h2:=(at8 b (4*t+2)).toNat_lt;have e1:(ldw b t 1).toNat=(at8 b (4*t)).toNat:=by rw[ldw,ldw,or8 (N:=0) rfl (by decide)];simp
 have e2:(ldw b t 2).toNat=256*(at8 b (4*t)).toNat+(at8 b (4*t+1)).toNat:=by rw[ldw,or8 e1 (by omega)]
 have e3:(ldw b t 3).toNat=256*(256*(at8 b (4*t)).toNat+(at8 b (4*t+1)).toNat)+(at8 b (4*t+2)).toNat:=by rw[ldw,or8 e2 (by omega)]
 rw[ldw,or8 e3 (by omega)];rfl
def z9ja:Nat->List UInt8->List Nat->List Nat
 |n+1,a::b::c::d::r,acc=>z9ja n r (Nat.add (Nat.mul 256 (Nat.add (Nat.mul 256 (Nat.add (Nat.mul 256 a.toNat) b.toNat)) c.toNat)) d.toNat::acc)
 |_,_,acc=>acc
theorem z5j(b:List UInt8)(hb:b.length=64):∀(n t:Nat),n+t=16->z9ja n (b.drop (4*t)) (n32 (qX b t).reverse)=n32 (qX b 16).reverse
 |0,t,h=>by
  have:t=16:=by omega
  subst this;rfl
 |n+1,t,h=>by
  have hd:b.drop (4*t)=at8 b (4*t)::at8 b (4*t+1)::at8 b (4*t+2)::at8 b (4*t+3)::b.drop (4*(t+1)):=by rw[List.drop_eq_getElem_cons (by omega),List.drop_eq_getElem_cons (by omega),List.drop_eq_getElem_cons (by omega),List.drop_eq_getElem_cons (by omega)];simp only[at8,List.getD,List.getElem?_eq_getElem (show 4*t<b.length by omega),List.getElem?_eq_getElem (show 4*t+1<b.length by omega),List.getElem?_eq_getElem (show 4*t+2<b.length by omega),List.getElem?_eq_getElem (show 4*t+3<b.length by omega),Option.getD_some];rfl
  have hs:n32 (qX b (t+1)).reverse=wd b t::n32 (qX b t).reverse:=by
   have:KA b t (qX b t)=ldw b t 4:=by rw[KA,if_pos (by omega)]
   simp[qX,n32,this,z6ya]
  rw[hd,z9ja];show z9ja n _ (wd b t::_)=_;rw[<-hs,z5j b hb n (t+1) (by omega)]
def kcN:List Nat:=n32 kc
def RZ(s:N8)(b:List UInt8):N8:=
 (λr=>N8.mk (Nat.mod (Nat.add s.a r.a) M32) (Nat.mod (Nat.add s.b r.b) M32) (Nat.mod (Nat.add s.c r.c) M32) (Nat.mod (Nat.add s.d r.d) M32) (Nat.mod (Nat.add s.e r.e) M32) (Nat.mod (Nat.add s.f r.f) M32) (Nat.mod (Nat.add s.g r.g) M32) (Nat.mod (Nat.add s.h r.h) M32))
  (Tf kcN (z2na 48 (z9ja 16 b [])).reverse s)
theorem z2I(s:H8)(b:List UInt8)(hb:b.length=64):toN (Ni s b)=RZ (toN s) b:=by
 have hw:=z5j b hb 16 0 rfl;have e0:b.drop (4*0)=b:=rfl;have e1:n32 (qX b 0).reverse=[]:=rfl;rw[e0,e1] at hw;have hs:=Vk b 48 16 (by decide);have hr:=z4p (qX b 64) s (sT b 64) 64 (by decide);rw[List.take_of_length_le (l:=qX b 64) (by rw[sT];decide),List.take_of_length_le (l:=kc) (i:=64) (Nat.le_refl _)] at hr;have hrev:(n32 (qX b 64).reverse).reverse=n32 (qX b 64):=by simp[n32]
 unfold RZ;rw[hw,hs,hrev,kcN,<-hr];simp only[Ni,H8.add,toN,N8.mk.injEq];exact⟨UInt32.toNat_add _ _,UInt32.toNat_add _ _,UInt32.toNat_add _ _,UInt32.toNat_add _ _,UInt32.toNat_add _ _,UInt32.toNat_add _ _,UInt32.toNat_add _ _,UInt32.toNat_add _ _⟩
def z8J:Nat->List UInt8->N8->N8
 |0,_,s=>s
 |k+1,m,s=>z8J k (m.drop 64) (RZ s (m.take 64))
theorem N3:∀(k:Nat) (m:List UInt8) (s:N8),z8J (k+1) m s=RZ (z8J k m s) ((m.drop (64*k)).take 64)
 |0,_,_=>rfl
 |k+1,m,s=>by rw[z8J,N3 k,List.drop_drop,show 64+64*k=64*(k+1) by omega];rfl
theorem z92(m:List UInt8)(s:H8):∀k,64*k<=m.length->toN (blk m s k)=z8J k m (toN s)
 |0,_=>rfl
 |k+1,h=>by rw[blk,z2I _ _ (by simp;omega),z92 m s k (by omega),N3]
def o4(x:Nat):List UInt8:=[UInt8.ofNat (Nat.shiftRight x 24),UInt8.ofNat (Nat.shiftRight x 16),UInt8.ofNat (Nat.shiftRight x 8),UInt8.ofNat x]
def z8oa(s:N8):List UInt8:=o4 s.a++(o4 s.b++(o4 s.c++(o4 s.d++(o4 s.e++(o4 s.f++(o4 s.g++o4 s.h))))))
theorem z79(x:UInt32)(n:Nat):(Mn x n).toUInt8=UInt8.ofNat (Nat.shiftRight x.toNat n):=by apply UInt8.toNat_inj.1;rw[UInt32.toNat_toUInt8,UInt8.toNat_ofNat'];show(x.toBitVec>>>n).toNat% 256=(x.toNat>>>n)% 256;rw[BitVec.toNat_ushiftRight];rfl
theorem z2sa(h:H8):SK h 32=z8oa (toN h):=by simp only[SK,z8oa,o4,toN,List.nil_append,List.append_assoc,List.cons_append,z79];rfl
def z04(n:Nat):List UInt8:=128::(bF (Nat.mod (Nat.sub 119 (Nat.mod n 64)) 64)++[UInt8.ofNat (Nat.shiftRight (Nat.mul 8 n) 56),UInt8.ofNat (Nat.shiftRight (Nat.mul 8 n) 48),UInt8.ofNat (Nat.shiftRight (Nat.mul 8 n) 40),UInt8.ofNat (Nat.shiftRight (Nat.mul 8 n) 32),UInt8.ofNat (Nat.shiftRight (Nat.mul 8 n) 24),UInt8.ofNat (Nat.shiftRight (Nat.mul 8 n) 16),UInt8.ofNat (Nat.shiftRight (Nat.mul 8 n) 8),UInt8.ofNat (Nat.mul 8 n)])
theorem z3A{x:UInt64}{N:Nat}(hx:x.toNat=N)(n:Nat):(ct x n).toUInt8=UInt8.ofNat (Nat.shiftRight N n):=by apply UInt8.toNat_inj.1;rw[UInt64.toNat_toUInt8,UInt8.toNat_ofNat'];show(x.toBitVec>>>n).toNat% 256=(N>>>n)% 256;rw[BitVec.toNat_ushiftRight];subst hx;rfl
theorem z1xa{n:Nat}(h:n<1099511627776):nQ (UInt64.ofNat n)=z04 n:=by
 have h1:(UInt64.ofNat n).toNat=n:=by rw[UInt64.toNat_ofNat'];omega
 have h2:(8*UInt64.ofNat n).toNat=8*n:=by rw[UInt64.toNat_mul,h1];have:(8:UInt64).toNat=8:=rfl;rw[this];omega
 simp only[nQ,h1,z04,be8,List.nil_append,List.append_assoc,List.cons_append,z3A h2,KC];rfl
def ivN:N8:=toN iv
def z1oa(b:List UInt8):List UInt8:=(λm=>z8oa (z8J (Nat.div m.length 64) m ivN)) (b++z04 b.length)
theorem z47{b:List UInt8}(h:b.length<1099511000000):sha b=z1oa b:=by obtain⟨h1,h2,h3⟩:=HK (b:=b) (by omega);rw[TP h,z2sa,z92 _ _ _ (by omega)];show _=z8oa (z8J ((b++z04 b.length).length/64) (b++z04 b.length) ivN);rw[<-z1xa (by omega)];rfl
theorem hp4{i:Nat}(h:i<6):hdA (([.bp 4 0,.bp 4 1,.bp 4 2,.bp 4 3,.bp 4 4,.bp 4 5]:List oH).drop i)= .bp 4 i:=by
 match i,h with
 |0,_|1,_|2,_|3,_|4,_|5,_=>rfl
end Go.Abs