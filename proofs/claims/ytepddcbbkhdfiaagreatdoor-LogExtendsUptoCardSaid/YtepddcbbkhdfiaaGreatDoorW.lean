/- Lemmas: an abstract interpreter, and what the functions compute. -/
import Derived.Test.YtepddcbbkhdfiaaGreatDoorI
import Derived.Test.YtepddcbbkhdfiaaGreatDoorK
import Derived.Test.YtepddcbbkhdfiaaGreatDoorV
import Derived.Test.YtepddcbbkhdfiaaGreatDoorP
import Derived.Test.YtepddcbbkhdfiaaGreatDoorT
import Derived.Test.YtepddcbbkhdfiaaGreatDoorG
import Derived.Test.YtepddcbbkhdfiaaGreatDoorJ
import Derived.Test.YtepddcbbkhdfiaaGreatDoorR
import Derived.Test.YtepddcbbkhdfiaaGreatDoorH
import Derived.Test.YtepddcbbkhdfiaaGreatDoorU
set_option linter.unusedSimpArgs false
set_option linter.unusedVariables false
set_option linter.unusedSectionVars false
section
namespace Go.Abs
set_option maxRecDepth 100000
end Go.Abs
end

section
namespace Go.Abs
set_option maxRecDepth 100000
end Go.Abs
end

section
namespace Go.Abs
set_option maxRecDepth 100000
theorem z3Xc (E:Env):∀ds,z0Qa.pre ds→ds.length=z2j.n∧awp E z2j.body (z0m z2j.res (z0Qa.post ds)) (z3b z2j.wr ds):=by
 rintro _ ⟨nr,ne,l,h,rfl⟩
 rw[z63 h]
 have hs:=h.s
 have hll:l.len=l.size+l.ents.length:=rfl
 simp only[z9W,z5w,z5n]
 simp(maxSteps:=1000000) (disch:=first|omega|(simp;done)|(simp;omega)) [z9a,z1a,z0a,z2j]
 omega
structure inL (s:Int) (r:List (List UInt8)) (l:List z3h) (x:z3h):Prop where
 hs:inI s
 hr:z2p r
 hrl:r.length≤1000000
 hl:okL l
 hw:z4wa l≤1000000000
 hx:x.ok
 hv:wE x≤1000000000
theorem inL.one {s:Int} {r:List (List UInt8)} {l:List z3h} {x:z3h} (h:inL s r l x):okL [x]∧z4wa [x]≤1000000000:=⟨fun y hy=>by rw[List.mem_singleton.1 hy];exact h.hx,by have:=h.hv;simp[z4wa];omega⟩
theorem z0kc {x:z3h} (h:x.ok) (hf:z4Wb [x]=true):x.small:=(z57a (l:=[x]) (fun y hy=>by rw[List.mem_singleton.1 hy];exact h) hf).1 x (by simp)
def z13b:z5a:=⟨fun ds=>∃(s:Int) (r:List (List UInt8)) (l:List z3h) (x:z3h) (m:Int),inL s r l x∧z1n m∧ds=[z9cc s none none r l,.agg (z8j none none none x),i64 m],fun _=>bo true⟩
set_option maxHeartbeats 16000000 in
theorem z3xc (E:Env) (h391:E.G 391=z6zc) (h389:E.G 389=z71a) (h390:E.G 390=z8Eb) (h353:E.G 353=z56c) (h375:E.G 375=z0Qa) (h348:E.G 348=z9hc) (h213:E.G 213=z6ub) (h355:E.G 355=z1Ab) (h349:E.G 349=z0Qa) (h206:E.G 206=z6ad) (h357:E.G 357=z84c):∀ds,z13b.pre ds→ds.length=z4b.n∧awp E z4b.body (z0m z4b.res (z13b.post ds)) (z3b z4b.wr ds):=by
 rintro _ ⟨s,r,l,x,m,h,hm,rfl⟩
 show _∧awp E _ (z0m _ (bo true)) _
 have hxl:=z1Ia h.hx
 have fp:z71a.pre [.sl .plain none l.length (z6h l)]=True:=z3Jb (nl:=none) h.hl h.hw
 have fq:z71a.post [.sl .plain none l.length (z6h l)]=bo (z4Wb l):=z5Ya (nl:=none) h.hl
 have e1:z6h [x]=z8j none none none x:=z9kb x
 have gp:z71a.pre [.sl .plain (some false) 1 (z8j none none none x)]=True:=by rw[←e1];exact z3Jb (nl:=some false) h.one.1 h.one.2
 have gq:z71a.post [.sl .plain (some false) 1 (z8j none none none x)]=bo (z4Wb [x]):=by rw[←e1];exact z5Ya (nl:=some false) h.one.1
 have htk:List.take 30 (z8j none none none x)=z8j none none none x:=List.take_of_length_le (by omega)
 have sp:splice [i64 0,i64 0,i64 0,i64 0,i64 0,i64 0,i64 0,i64 0,i64 0,i64 0,st [],.sl .plain none 0 [],u8 0,u8 0,u8 0,u8 0,u8 0,u8 0,u8 0,u8 0,u8 0,u8 0,u8 0,u8 0,u8 0,u8 0,u8 0,u8 0,.sl .plain none 0 [],.sl .plain none 0 []] 0 (z8j none none none x)=z8j none none none x:=z72b rfl hxl
 have s0:z6zc.pre []=True:=eq_true rfl
 have s1:z6zc.post []=bo true:=rfl
 unfold z9cc z5w z5n
 cases b1:z4Wb l with
 |false=>
  simp(maxSteps:=1000000) (disch:=first|omega|(simp;done)|(simp;omega)) [z9a,z1a,z0a,z4b,kT,kF,dT,dF,h389,fp,fq,b1,h391,s0,s1,hxl]
  skip
 |true=>
  obtain⟨hsm,hln⟩:=z57a h.hl b1
  cases b2:z4Wb [x] with
  |false=>
   simp(maxSteps:=1000000) (disch:=first|omega|(simp;done)|(simp;omega)) [z9a,z1a,z0a,z4b,kT,kF,dT,dF,h389,fp,fq,gp,gq,b1,b2,hxl,htk,sp,h391,s0,s1]
   skip
  |true=>
   have hxs:=z0kc h.hx b2
   have hraw:z2Od s r l:=⟨h.hs,h.hr,h.hrl,hsm,hln⟩
   have vp:=z1lc hraw
   have vq:=z0rb hraw
   unfold z9cc z5w z5n at vp vq
   cases b3:z9xb s r.length l with
   |false=>
    simp(maxSteps:=1000000) (disch:=first|omega|(simp;done)|(simp;omega)) [z9a,z1a,z0a,z4b,kT,kF,dT,dF,h389,h390,fp,fq,gp,gq,vp,vq,b1,b2,b3,hxl,htk,sp,h391,s0,s1]
    skip
   |true=>
    obtain⟨hs0,hL,hs6⟩:=z3Pc hraw b3
    obtain⟨S,rfl⟩:∃S:Nat,s=S:=⟨s.toNat,by omega⟩
    rw[Int.toNat_natCast] at hL
    simp(maxSteps:=1000000) (disch:=first|omega|(simp;done)|(simp;omega)) [z9a,z1a,z0a,z4b,kT,kF,dT,dF,h389,h390,fp,fq,gp,gq,vp,vq,b1,b2,b3,hxl,htk,sp]
    obtain⟨N,hN⟩:∃N,N=S+l.length:=⟨_,rfl⟩
    have hll:(⟨S,r,l⟩:z3M).len=N:=hN.symm
    have hsz:N≤60200:=by omega
    have ep:=z79b hL hm
    have eq:=z7bb m hL
    have kp:=z0wb hL hm
    have kq:=z9Qa m hL
    have zp:=z4Ga (nr:=none) (ne:=none) hL
    have zq:=z63 (nr:=none) (ne:=none) hL
    have rp:=z4Ob hL
    have rq:=z7Va hL
    by_cases c:m<1∨m<S∨(N:Int)<m
    ·have hE:z2Xa ⟨S,r,l⟩ m=([],11):=by unfold z2Xa;rw[hll];exact if_pos c
     rw[hE] at eq
     simp only[z9W,z5w,z5n,hll,pkA] at ep eq zp zq
     by_cases c1:m<1
     ·simp(maxSteps:=1000000) (disch:=first|omega|(simp;done)|(simp;omega)) [z9a,z1a,z0a,z6g,kT,kF,dT,dF,h353,ep,eq,h391,s0,s1,c1,z4b]
      skip
     ·by_cases c2:m<S
      ·simp(maxSteps:=1000000) (disch:=first|omega|(simp;done)|(simp;omega)) [z9a,z1a,z0a,z6g,kT,kF,dT,dF,h353,ep,eq,h391,s0,s1,c1,c2,z4b]
       skip
      ·have c3:(N:Int)<m:=by omega
       simp(maxSteps:=1000000) (disch:=first|omega|(simp;done)|(simp;omega)) [z9a,z1a,z0a,z6g,kT,kF,dT,dF,h353,ep,eq,h391,s0,s1,c1,c2,c3,z4b,h375,zp,zq]
       skip
    ·have c1:1≤m:=by omega
     have c2:(S:Int)≤m:=by omega
     have c3:m≤(N:Int):=by omega
     have c2':((⟨S,r,l⟩:z3M).size:Int)≤m:=c2
     have c3':m≤((⟨S,r,l⟩:z3M).len:Int):=by rw[hll];exact c3
     have hv:=z4Cc hL c1 c2' c3'
     have h16:=z3Fc hL m
     have hPl:=z97b hL m
     have hE2:(z2Xa ⟨S,r,l⟩ m).2=0:=by rw[z1xb c1 c2' c3']
     have hA16:=z2Jc hL m
     have hAl:=z0Ab hL c2' c3'
     have ht:=z4Jb c1 (by omega) hAl
     have hR:=z6Cc hL
     have hAp:0<(z7ub ⟨S,r,l⟩ m).length:=by rw[hAl];exact z6wa (by omega)
     have hT:(z8wa (z7ub ⟨S,r,l⟩ m)).length=16:=z9F hA16 hAp _
     have hAl2:(z7ub ⟨S,r,l⟩ m).length≤62000:=by rw[hAl];have:=z5rb m.toNat;omega
     rw[z5Pc c2' c3'] at kq
     have tp:=z0Jb (nl:=none) (n:=m) hm hA16 (by omega) rfl rfl
     have tq:=z1Fa (n:=m) (m:= .plain) (nl:=none) hA16 rfl rfl
     rw[ht] at tq
     have wp:=z3Hb (m:=m) (n:=(N:Int)) (nl:=none) hT hR (by omega) h16 (by omega)
     have wq:=z42a (old:=z8wa (z7ub ⟨S,r,l⟩ m)) (root:=z1ob ⟨S,r,l⟩) (m:=m) (n:=(N:Int)) (nl:=none) h16
     rw[hll] at hv
     rw[hv] at wq
     have ap:=z76c hL (show l.length<1000 by omega) (by rw[hll];omega) hxs
     have aq:=z0Lb hL hxs
     have hcv:=z4Kd hL hxs (show l.length<1000 by omega) (by rw[hll];omega) (by rw[hll];omega)
     have hC:(z8qb ⟨S,r,l⟩ x).ok:=z7Dc hL hxs (show l.length<1000 by omega) (by rw[hll];omega)
     have hCl:(z8qb ⟨S,r,l⟩ x).len=N+1:=by rw[z93b,hll]
     obtain⟨l2,hl2⟩:∃l2,l2=l++[x]:=⟨_,rfl⟩
     have hCe:z8qb ⟨S,r,l⟩ x=⟨S,r,l2⟩:=by rw[hl2];rfl
     obtain⟨N2,hN2⟩:∃N2,N2=N+1:=⟨_,rfl⟩
     rw[←hN2] at hCl
     rw[hCe] at hC hCl hcv
     rw[hCl,hll] at hcv
     have ep2:=z79b hC (show z1n (N:Int) from⟨by omega,by omega⟩)
     have eq2:=z7bb (N:Int) hC
     have zp2:=z4Ga (nr:=none) (ne:=none) hC
     have zq2:=z63 (nr:=none) (ne:=none) hC
     have rp2:=z4Ob hC
     have rq2:=z7Va hC
     have h162:=z3Fc hC (N:Int)
     have hPl2:=z97b hC (N:Int)
     have hE3:(z2Xa ⟨S,r,l2⟩ (N:Int)).2=0:=by rw[z1xb (by omega) (show(S:Int)≤N by omega) (by rw[hCl];omega)]
     have hR2:=z6Cc hC
     have wp2:=z3Hb (m:=(N:Int)) (n:=(N2:Int)) (nl:=none) hR hR2 (by omega) h162 (by omega)
     have wq2:=z42a (old:=z1ob ⟨S,r,l⟩) (root:=z1ob ⟨S,r,l2⟩) (m:=(N:Int)) (n:=(N2:Int)) (nl:=none) h162
     rw[hcv] at wq2
     have dn:decide ((N2:Int)=(N:Int)+1)=true:=decide_eq_true (by omega)
     have dn2:((N2:Int)==(N:Int)+1)=true:=beq_iff_eq.2 (by omega)
     simp only[z9W,z5w,z5n,hll,hCl,pkA,hE2,hE3] at ep eq zp zq kp kq rp rq tp tq wp wq ap aq ep2 eq2 zp2 zq2 rp2 rq2 wp2 wq2
     clear hv ht hE2 hE3 hcv
     generalize(z2Xa ⟨S,r,l2⟩ (N:Int)).1=P2 at*
     generalize z1ob ⟨S,r,l2⟩=R2 at*
     generalize hP:(z2Xa ⟨S,r,l⟩ m).1=P at*
     generalize hRR:z1ob ⟨S,r,l⟩=R at*
     generalize hAA:z7ub ⟨S,r,l⟩ m=A at*
     generalize hTT:z8wa A=T at*
     simp(maxSteps:=1000000) (disch:=first|omega|(simp;done)|(simp;omega)) [z9a,z1a,z0a,z6g,z5x,kT,kF,dT,dF,h353,ep,eq,h348,kp,kq,h213,tp,tq,h355,rp,rq,h349,zp,zq,h206,wp,wq,hR,hT,z8a,z7F,z1I,z0g]
     rcases z41b ⟨S,r,l⟩ x with⟨e,he1,he2,hle⟩|hle
     ·rw[hle] at aq
      have d0:decide ((e:Int)=0)=false:=decide_eq_false (by omega)
      have d1:((e:Int)==0)=false:=beq_false_of_ne (by omega)
      have e0:z6h []=[]:=rfl
      simp only[z6yb,e0,List.length_nil] at aq
      simp(maxSteps:=1000000) (disch:=first|omega|(simp;done)|(simp;omega)) [z9a,z1a,z0a,z7n,kT,kF,dT,dF,h357,ap,aq,hxl,htk,d0,d1,h391,s0,s1,z7F,z1I,z4b]
      skip
     ·rw[hle,hCe] at aq
      simp(maxSteps:=1000000) (disch:=first|omega|(simp;done)|(simp;omega)) [z9a,z1a,z0a,z7n,z6x,kT,kF,dT,dF,h357,ap,aq,hxl,htk,h391,s0,s1,z7F,z1I,h353,ep2,eq2,h349,zp,zq,zp2,zq2,h355,rp,rq,rp2,rq2,h206,wp2,wq2,dn,dn2,z4b]
      skip
end Go.Abs
end

section
namespace Go.Abs
set_option maxRecDepth 100000
def z6ba:z3a:=
 Yd 22 (Yy [1,3,4,5]) (YY [1,3])
def z2ea:z3a:=
 Yq (.block 1 (.region [1,3,4,5] [.norm [1]] [YM 25 3,Ym 26 4,Ym 27 5,Yi 28 1 26 27,Yj 29 28,Yk 30 30 29,Yo 31 (.append 1 1 false none none 25 (.s 30)),YM 3 31])) (Yu [1,3,4,5] [Ym 23 5,YB 24 .add 23 1,Ym 5 24])
def z8fa:z3a:=
 Yq (Yr [1,3,4,5,22] [Ym 19 5,Ym 20 4,Yn 21 20,Yb 22 .lss 19 21] z6ba) z2ea
def z7fa:z3a:=
 .block 0 (.loop z8fa)
def z8ba:z3a:=
 YR [2] [.norm [1]] [YM 37 3,Yf 38 7 1,Yl 39 1 38,Yk 40 40 39,Yo 41 (.append 1 1 false none none 37 (.s 40)),YM 2 41] .ret
def z1ca:z3a:=
 YR [1,3] [.norm [1]] [YM 32 3,Yf 33 6 1,Yl 34 1 33,Yk 35 29 34,Yo 36 (.append 1 1 false none none 32 (.s 35)),YM 3 36] z8ba
def z6ca:z3a:=
 Yq (Yr [1,3,4,5] [Yc 5 0] z7fa) z1ca
def z0ea:z3a:=
 YR [1,3,4] [.norm [1]] [Yf 6 0 1,Yl 7 1 6,Yf 8 1 1,Yl 9 1 8,Yf 10 2 1,Yl 11 1 10,Yf 12 3 1,Yl 13 1 12,Yf 14 4 1,Yl 15 1 14,Yf 16 5 1,Yl 17 1 16,Yo 18 (.buildSl 1 6 [i64 0,i64 0,i64 0,i64 0,i64 0,i64 0] [(0,1,.s 7),(1,1,.s 9),(2,1,.s 11),(3,1,.s 13),(4,1,.s 15),(5,1,.s 17)]),YM 4 18] z6ca
def z7ea:z3a:=
 Yr [1,3] [Yo 3 (.mv true (.c (.sl (.own 1) none 0 [])))] z0ea
def z5qa:z6e:=
 {n:=1,wr:=[],res:=[.t 2],body:=YR [1] [.norm [1]] [Yx 1 1 8 0,Yo 2 (.mv true (.c (.sl (.own 1) none 0 [])))] z7ea}
def z1e:z3a:=
 YR [4] [.norm [2,3]] [Yf 5 0 2,Yl 6 2 5,Yf 7 0 3,Yl 8 3 7,Yb 9 .eql 6 8,Ym 10 9,YG 10 (Yf 11 1 2),YG 10 (Yl 12 2 11),YG 10 (Yf 13 1 3),YG 10 (Yl 14 3 13),YG 10 (Yb 15 .eql 12 14),Yp 16 10 15,Ym 17 16,YG 17 (Yf 18 2 2),YG 17 (Yl 19 2 18),YG 17 (Yf 20 2 3),YG 17 (Yl 21 3 20),YG 17 (Yb 22 .eql 19 21),Yp 23 17 22,Ym 24 23,YG 24 (Yf 25 3 2),YG 24 (Yl 26 2 25),YG 24 (Yf 27 3 3),YG 24 (Yl 28 3 27),YG 24 (Yb 29 .eql 26 28),Yp 30 24 29,Ym 31 30,YG 31 (Yf 32 4 2),YG 31 (Yl 33 2 32),YG 31 (Yf 34 4 3),YG 31 (Yl 35 3 34),YG 31 (Yb 36 .eql 33 35),Yp 37 31 36,Ym 38 37,YG 38 (Yf 39 5 2),YG 38 (Yl 40 2 39),YG 38 (Yf 41 5 3),YG 38 (Yl 42 3 41),YG 38 (Yb 43 .eql 40 42),Yp 44 38 43,Ym 45 44,YG 45 (Yf 46 6 2),YG 45 (Yl 47 2 46),YG 45 (Yf 48 6 3),YG 45 (Yl 49 3 48),YG 45 (Yb 50 .eql 47 49),Yp 51 45 50,Ym 52 51,YG 52 (Yf 53 7 2),YG 52 (Yl 54 2 53),YG 52 (Yf 55 7 3),YG 52 (Yl 56 3 55),YG 52 (YK 57 54 54 56),Yp 58 52 57,Ym 4 58] .ret
def z9i:z6e:=
 {n:=2,wr:=[],res:=[.t 4],body:=YR [2,3] [.norm [2,3]] [Yx 2 2 8 0,Yx 3 3 8 1,Yw 4 false] z1e}
end Go.Abs
end

section
namespace Go.Abs
end Go.Abs
end

section
namespace Go.Abs
@[simp] theorem z5yd (c:Cmd) (nl:Option Bool):(z0W c nl).length=8:=rfl
theorem z0Oc {c:Cmd} (h:c.ok):∀x∈[c.kind,c.key,c.other,c.type,c.uses,c.life],z1n x:=by
 obtain⟨h1,h2,h3,h4,h5,h6,_⟩:=h
 intro x hx
 simp only[List.mem_cons,List.not_mem_nil,or_false] at hx
 rcases hx with rfl|rfl|rfl|rfl|rfl|rfl<;>assumption
set_option maxHeartbeats 4000000 in
theorem z45c (E:Env) (h7:E.G 7=z7ia) (h12:E.G 12=z1Rb) (h39:E.G 39=z1G) (h129:E.G 129=z1y):∀ds,z3rb.pre ds→ds.length=z2n.n∧awp E z2n.body (z0m z2n.res (z3rb.post ds)) (z3b z2n.wr ds):=by
 rintro _ ⟨c,nl,hc,rfl⟩
 rw[z5ib]
 obtain⟨k1,k2,k3,k4,k5,k6,dt,ls⟩:=c
 obtain⟨ho,hd,hll⟩:=hc
 simp only at hd hll
 simp(maxSteps:=1000000) (disch:=first|omega|(simp;done)|(simp;omega)) [z9a,z1a,z0a,z2n,z21,z9Y,z0W]
 refine z4a fun Q0 hQ0=> ?_
 simp(maxSteps:=1000000) (disch:=first|omega|(simp;done)|(simp;omega)) [z9a,z1a,z0a,z4Y]
 have h6:=z0Oc ho
 obtain⟨L,hL⟩:∃L:List Int,L=[k1,k2,k3,k4,k5,k6]:=⟨_,rfl⟩
 have hLl:L.length=6:=by rw[hL];rfl
 rw[show [i64 k1,i64 k2,i64 k3,i64 k4,i64 k5,i64 k6]=z9p L by rw[hL];rfl]
 rw[←hL] at h6
 refine z4e (fun i:Nat=>⟨[(0,.agg [i64 k1,i64 k2,i64 k3,i64 k4,i64 k5,i64 k6,st dt,.sl .plain nl ls.length (z9p ls)])],[(1,.bp 1 0),(3,.sl (.own 1) none ((L.take i).flatMap z4J).length (bys ((L.take i).flatMap z4J))),(18,.agg (z9p L)),(19,i64 i)],[(1,some [i64 k1,i64 k2,i64 k3,i64 k4,i64 k5,i64 k6,st dt,.sl .plain nl ls.length (z9p ls)])]⟩) (fun i=>6-i) (· ≤6) 0 (by simp) (by simp) fun i hi=> ?_
 refine z4a fun Q1 hQ1=> ?_
 by_cases h1:i<6
 ·have h1':i<L.length:=by omega
  have hs:=z7s L z4J 0 h1'
  rw[show L.getD i 0=atI L i from rfl] at hs
  have ha:=h6 _ (z0zb h1')
  have g2:=z2s ha
  have g3:=z1l (l:=L.take i) fun x hx=>h6 x (List.mem_of_mem_take hx)
  have g4:(L.take i).length≤6:=by rw[List.length_take];omega
  generalize hF:(L.take i).flatMap z4J=F at*
  generalize hX:atI L i=x at*
  have hg:∀h:i<(z9p L).length,(z9p L)[i]=i64 x:=fun h=>by rw[←hX];simp[z9p,atI,List.getD,List.getElem?_eq_getElem h1']
  simp(maxSteps:=1000000) (disch:=first|omega|(simp;done)|(simp;omega)) [z9a,z1a,z0a,z7C,z6C,z9X,z3Z,kT,kF,dT,dF,h1,hg,hLl,h12,z2bb ha.1 ha.2,hQ1,-List.length_flatMap]
  exact⟨⟨by omega,by omega⟩,by omega,i+1,by omega,by omega,⟨by rw[hs,List.length_append],hs.symm⟩,by omega⟩
 ·obtain rfl:i=6:=by omega
  have hT:L.take 6=L:=by rw[←hLl,List.take_length]
  have h6l:=z1l h6
  have e1:=z2s (n:=(dt.length:Int)) (by constructor<;>omega)
  have e2:=z2s (n:=(ls.length:Int)) (by constructor<;>omega)
  have e3:=z1l (l:=ls) ho.2.2.2.2.2.2
  have hip:z1G.pre [.sl .plain nl ls.length (z9p ls)]=True:=z2Jb hll ho.2.2.2.2.2.2 rfl
  have hiq:z1G.post [.sl .plain nl ls.length (z9p ls)]= .sl (.own 1) (some false) (z4x ls).length (bys (z4x ls)):=by rw[z1G,z9Ta];rfl
  have hcp:z1y.pre [.sl .plain (some false) 3 [.sl (.own 1) none (L.flatMap z4J).length (bys (L.flatMap z4J)),.sl (.own 1) (some false) (z5N dt).length (bys (z5N dt)),.sl (.own 1) (some false) (z4x ls).length (bys (z4x ls))]]=True:=
   z3Sb (ps:=[(none,L.flatMap z4J),(some false,z5N dt),(some false,z4x ls)]) (by simp only[z1Kc,List.map_cons,List.map_nil,List.sum_cons,List.sum_nil,z5N,z4x,List.length_append];omega) (by simp) rfl
  have hcq:z1y.post [.sl .plain (some false) 3 [.sl (.own 1) none (L.flatMap z4J).length (bys (L.flatMap z4J)),.sl (.own 1) (some false) (z5N dt).length (bys (z5N dt)),.sl (.own 1) (some false) (z4x ls).length (bys (z4x ls))]]= .sl (.own 1) none (L.flatMap z4J++(z5N dt++z4x ls)).length (bys (L.flatMap z4J++(z5N dt++z4x ls))):=by
   have:=z9Ab (some false) 3 [(none,L.flatMap z4J),(some false,z5N dt),(some false,z4x ls)]
   simpa[bls,-List.length_append,-List.length_flatMap] using this
  have hE:z7kb ⟨k1,k2,k3,k4,k5,k6,dt,ls⟩=L.flatMap z4J++(z5N dt++z4x ls):=by rw[hL];rfl
  rw[hE] at hQ0
  simp(maxSteps:=1000000) (disch:=first|omega|(simp;done)|(simp;omega)) [z9a,z1a,z0a,z7C,z6C,kT,kF,dT,dF,hQ1,hQ0,hT,z2Z,h7,z6Aa,h39,hip,hiq,h129,hcp,hcq,-z1a,-List.length_append,-List.length_flatMap]
end Go.Abs
end
