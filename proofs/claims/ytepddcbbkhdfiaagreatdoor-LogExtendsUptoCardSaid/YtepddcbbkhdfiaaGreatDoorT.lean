/- Lemmas: an abstract interpreter, and what the functions compute. -/
import Derived.Test.YtepddcbbkhdfiaaGreatDoorQ
import Derived.Test.YtepddcbbkhdfiaaGreatDoorR
import Derived.Test.YtepddcbbkhdfiaaGreatDoorS
import Derived.Test.YtepddcbbkhdfiaaGreatDoorI
import Derived.Test.YtepddcbbkhdfiaaGreatDoorG
set_option linter.unusedSimpArgs false
set_option linter.unusedVariables false
set_option linter.unusedSectionVars false
section
namespace Go.Abs
set_option maxRecDepth 100000
def e0R:z3h:=⟨0,0,0,0,z4S,[],[],[]⟩
def atE (l:List z3h) (i:Nat):z3h:=l.getD i e0R
theorem z0Bb {l:List z3h} {i:Nat} (h:i<l.length):atE l i=l[i]:=by
 simp[atE,List.getD,List.getElem?_eq_getElem h]
theorem z40c {l:List z3h} {i:Nat} (h:i<l.length):atE l i∈l:=by rw[z0Bb h];exact List.getElem_mem h
def z5wd (l:List z3h) (i:Nat):Bool:=okE (atE l i)&&(decide (i=0)||decide ((atE l (i-1)).time≤(atE l i).time))
def z8xd (l:List z3h):Bool:=(List.range l.length).all (z5wd l)
def z9xb (s:Int) (k:Nat) (l:List z3h):Bool:=z8xd l&&okP s k&&decide (s≤60000)
def z9cc (s:Int) (nr ne:Option Bool) (r:List (List UInt8)) (l:List z3h):z2a:= .agg [i64 s,z5w nr r,z5n ne l]
structure z2Od (s:Int) (r:List (List UInt8)) (l:List z3h):Prop where
 hs:inI s
 hr:z2p r
 hrl:r.length≤1000000
 he:z13a l
 hn:l.length≤200
def gLs (d:z2a):Int:=match d with| .agg (a::_)=>asI a|_=>0
def z8Eb:z5a:=⟨fun ds=>∃(s:Int) (r:List (List UInt8)) (l:List z3h),z2Od s r l∧ds=[z9cc s none none r l],fun ds=>bo (z9xb (gLs (nth ds 0)) (z03a (nth ds 0)).roots.length (z03a (nth ds 0)).ents)⟩
theorem z1lc {s:Int} {r:List (List UInt8)} {l:List z3h} (h:z2Od s r l):z8Eb.pre [z9cc s none none r l]=True:=eq_true ⟨s,r,l,h,rfl⟩
theorem z0rb {s:Int} {r:List (List UInt8)} {l:List z3h} (h:z2Od s r l):z8Eb.post [z9cc s none none r l]=bo (z9xb s r.length l):=by
 show bo (z9xb s (gDs (.sl .plain none r.length (bys (dgs r)))).length (z59a l.length (z6h l)))=_
 rw[z8A h.hr,z3Qa h.he]
theorem z8Vc {l:List z3h} {i:Nat} (h:i<l.length) (hn:z5wd l i=false):z8xd l=false:=by
 cases hv:z8xd l with
 |false=>rfl
 |true=>
  have:=List.all_eq_true.1 hv i (List.mem_range.2 h)
  rw[hn] at this;cases this
theorem z9ic {l:List z3h} (h:∀j<l.length,z5wd l j=true):z8xd l=true:=List.all_eq_true.2 fun i hi=>h i (List.mem_range.1 hi)
theorem z3Pc {s:Int} {r:List (List UInt8)} {l:List z3h} (h:z2Od s r l) (hv:z9xb s r.length l=true):0≤s∧z3M.ok ⟨s.toNat,r,l⟩∧s≤60000:=by
 simp only[z9xb,okP,Bool.and_eq_true,decide_eq_true_eq] at hv
 refine⟨hv.1.2.1.1,⟨h.hr,hv.1.2.2,h.he,by have:=h.hn;simp only;omega,?_⟩,hv.2⟩
 have:=h.hn
 simp only
 omega
set_option maxHeartbeats 8000000 in
theorem z5sc (E:Env) (h331:E.G 331=z8ub) (h211:E.G 211=z0db):∀ds,z8Eb.pre ds→ds.length=z7d.n∧awp E z7d.body (z0m z7d.res (z8Eb.post ds)) (z3b z7d.wr ds):=by
 rintro _ ⟨s,r,l,h,rfl⟩
 rw[z0rb h]
 have hlen:=z3z h.he
 have hn:=h.hn
 have v1:=z9Ra (nl:=none) h.hs h.hr h.hrl rfl rfl
 have v2:=z3fa (n:=s) (m:= .plain) (nl:=none) h.hr rfl rfl
 unfold z9cc z5w z5n
 generalize hQf:z0m z7d.res (bo (z9xb s r.length l))=Qf
 simp(maxSteps:=1000000) (disch:=first|omega|(simp;done)|(simp;omega)) [z9a,z1a,z0a,z7d]
 refine z4a fun Q1 hQ1=> ?_
 refine z4e (fun i:Nat=>⟨[(0,.agg [i64 s,.sl .plain none r.length (bys (dgs r)),.sl .plain none l.length (z6h l)])],[(1,.bp 1 0),(6,.sl .plain none l.length (z6h l)),(7,i64 l.length),(8,i64 i)],[(1,some [i64 s,.sl .plain none r.length (bys (dgs r)),.sl .plain none l.length (z6h l)])]⟩) (fun i=>l.length-i) (fun i=>i≤l.length∧∀j<i,z5wd l j=true) 0 (by simp) (by simp) fun i hi=> ?_
 obtain⟨hi,hj⟩:=hi
 refine z4a fun Q2 hQ2=> ?_
 by_cases c:i<l.length
 ·have hx:=h.he _ (z40c c)
  have hat:=z8fb h.he c
  rw[←z0Bb c] at hat
  have hxl:=z02a hx
  have p1:z8ub.pre [.agg (z8j none none none (atE l i))]=True:=z75b hx
  have p2:z8ub.post [.agg (z8j none none none (atE l i))]=bo (okE (atE l i)):=z0Sa hx
  have hno:=z8Vc c
  have hst:∀j<i+1,j<i∨j=i:=fun j hj=>by omega
  have hpr:0<i→hdA ((z6h l).drop ((i-1)*30))=i64 (atE l (i-1)).time:=fun h0=>by rw[z36b h.he (show i-1<l.length by omega),z0Bb (by omega)]
  have hok:z5wd l i=(okE (atE l i)&&(decide (i=0)||decide ((atE l (i-1)).time≤(atE l i).time))):=rfl
  have hx0:=z42c none none none (atE l i)
  generalize hX:atE l i=x at*
  generalize hY:atE l (i-1)=y at*
  have hle2:30≤l.length*30-i*30:=by omega
  have hle3:i*30≤l.length*30:=by omega
  have i1:((i:Int)-1).toNat=i-1:=by omega
  have htk:List.take 30 (z8j none none none x)=z8j none none none x:=List.take_of_length_le (by omega)
  have sp:splice (i64 0::i64 0::i64 0::i64 0::i64 0::i64 0::i64 0::i64 0::i64 0::i64 0::st []:: .sl .plain none 0 []::(bys (z9c 16)++[.sl (.own 24) none 0 [],.sl (.own 1) none 0 []])) 0 (z8j none none none x)=z8j none none none x:=z72b rfl hxl
  cases b1:okE x with
  |false=>
   have hz:z9xb s r.length l=false:=by rw[z9xb,hno (by rw[hok,b1];rfl)];rfl
   simp(maxSteps:=1000000) (disch:=first|omega|(simp;done)|(simp;omega)) [z9a,z1a,z0a,z6f,z1k,kT,kF,dT,dF,c,hlen,hat,hxl,htk,hle2,hle3,sp,hQ2,hQ1,h331,p1,p2,b1,z7d,←hQf,hz]
   skip
  |true=>
   by_cases b2:i=0
   ·subst b2
    have hat0:List.take 30 (z6h l)=z8j none none none x:=by simpa using hat
    have h30:30≤l.length*30:=by omega
    simp(maxSteps:=1000000) (disch:=first|omega|(simp;done)|(simp;omega)) [z9a,z1a,z0a,z6f,z1k,kT,kF,dT,dF,c,hlen,hat,hxl,htk,hle2,hle3,sp,hQ2,hQ1,h331,p1,p2,b1,hat0,h30]
    refine⟨1,by omega,⟨by omega,fun j hj'=> ?_⟩,by omega⟩
    obtain rfl:j=0:=by omega
    rw[hok];simp[b1]
   ·have b3:0<i:=by omega
    have hy:=hpr b3
    by_cases b4:x.time<y.time
    ·have hz:z9xb s r.length l=false:=by rw[z9xb,hno (by rw[hok];simp[b2,b4])];rfl
     simp(maxSteps:=1000000) (disch:=first|omega|(simp;done)|(simp;omega)) [z9a,z1a,z0a,z6f,z1k,kT,kF,dT,dF,c,hlen,hat,hxl,htk,hle2,hle3,sp,hQ2,hQ1,h331,p1,p2,b1,b3,b4,i1,hy,hx0,z7d,←hQf,hz]
     exact⟨⟨by omega,by omega⟩,by omega⟩
    ·simp(maxSteps:=1000000) (disch:=first|omega|(simp;done)|(simp;omega)) [z9a,z1a,z0a,z6f,z1k,kT,kF,dT,dF,c,hlen,hat,hxl,htk,hle2,hle3,sp,hQ2,hQ1,h331,p1,p2,b1,b3,b4,i1,hy,hx0]
     refine⟨⟨by omega,by omega⟩,by omega,i+1,by omega,⟨by omega,fun j hj'=> ?_⟩,by omega⟩
     rcases hst j hj' with h'|rfl
     ·exact hj j h'
     ·rw[hok];simp[b1,Int.not_lt.1 b4]
 ·obtain rfl:i=l.length:=by omega
  have hz:z8xd l=true:=z9ic hj
  cases b1:okP s r.length with
  |false=>
   have hz:z9xb s r.length l=false:=by rw[z9xb,b1];simp
   simp(maxSteps:=1000000) (disch:=first|omega|(simp;done)|(simp;omega)) [z9a,z1a,z0a,z6f,z2v,kT,kF,dT,dF,hQ2,hQ1,z7d,←hQf,h211,v1,v2,hz,b1]
   skip
  |true=>
   have hz:z9xb s r.length l=decide (s≤60000):=by rw[z9xb,b1,hz];rfl
   simp(maxSteps:=1000000) (disch:=first|omega|(simp;done)|(simp;omega)) [z9a,z1a,z0a,z6f,z2v,kT,kF,dT,dF,hQ2,hQ1,z7d,←hQf,h211,v1,v2,hz,b1]
   skip
end Go.Abs
end

section
namespace Go.Abs
set_option maxRecDepth 100000
def z2j:z6e:=
 {n:=1,wr:=[],res:=[.t 2],body:=YR [1] [.norm [1]] [Yx 1 1 3 0,Yc 2 0] (YR [2] [.norm [1]] [Yf 3 0 1,Yf 4 0 3,Yl 5 1 4,Yf 6 2 1,Yl 7 1 6,Yn 8 7,Yb 9 .add 5 8,Ym 2 9] .ret)}
def z7ka:z3a:=
 Yq (.block 1 (YR [2,3,5,46] [.norm [2,3]] [Yf 35 2 2,Yl 36 2 35,Ym 37 5,Yi 38 1 36 37,Yj 39 38,Yf 40 2 3,Yl 41 3 40,Ym 42 5,Yi 43 1 41 42,Yj 44 43,YK 45 60 39 44,Yo 46 (.un .not (.s 45))] (Yd 46 (Yr [4] [Yw 4 false] .ret) (Yy [2,3,5])))) (Yu [2,3,5] [Ym 33 5,YB 34 .add 33 1,Ym 5 34])
def z5ka:z3a:=
 Yq (YR [2,3,5,32] [.norm [2,3]] [Ym 28 5,Yf 29 2 2,Yl 30 2 29,Yn 31 30,Yb 32 .lss 28 31] (Yd 32 (Yy [2,3,5]) (YY []))) z7ka
def z1la:z3a:=
 Yr [4] [Yw 4 true] .ret
def z0la:z3a:=
 Yq (Yr [2,3,5] [Yc 5 0] (.block 0 (.loop z5ka))) z1la
def z4ya:z6e:=
 {n:=2,wr:=[],res:=[.t 4],body:=YR [2,3] [.norm [2,3]] [Yx 2 2 3 0,Yx 3 3 3 1,Yw 4 false] (Yq (YR [2,3,27] [.norm [2,3]] [Yf 6 0 2,Yl 7 2 6,Yf 8 0 3,Yl 9 3 8,Yb 10 .neq 7 9,Ym 11 10,Yg 11 (Yf 12 2 2),Yg 11 (Yl 13 2 12),Yg 11 (Yn 14 13),Yg 11 (Yf 15 2 3),Yg 11 (Yl 16 3 15),Yg 11 (Yn 17 16),Yg 11 (Yb 18 .neq 14 17),YP 19 11 18,Ym 20 19,Yg 20 (Yf 21 1 2),Yg 20 (Yl 22 2 21),Yg 20 (Yf 23 1 3),Yg 20 (Yl 24 3 23),Yg 20 (YK 25 376 22 24),Yg 20 (Yo 26 (.un .not (.s 25))),YP 27 20 26] (Yd 27 (Yr [4] [Yw 4 false] .ret) (Yy [2,3]))) z0la)}
def z6ha:z3a:=
 Yq (.block 1 (.region [4,6,7,8] [.norm [2,4,7]] [YL 48 2 7 7,Ym 49 6,Ym 50 8,Yi 51 16 49 50,YJ 52 16 51,YK 53 212 48 52,Ym 47 53,Ye 54 0 47,Ye 55 1 47,Ys 2 7 7 54])) (Yu [4,6,7,8] [Ym 45 8,YB 46 .add 45 1,Ym 8 46])
def z7ga:z3a:=
 Yq (Yr [4,6,7,8,44] [Ym 41 8,Ym 42 6,Yn 43 42,Yb 44 .lss 41 43] (Yd 44 (Yy [4,6,7,8]) (YY [4,7]))) z6ha
def z2ga:z3a:=
 YR [4,5] [.norm [2,4,7]] [YL 56 2 7 7,Ys 2 4 4 56,Yc 5 0] .ret
def z5ha:z3a:=
 YR [2,4,6] [.norm [2,4]] [Yf 21 2 2,Yl 22 2 21,Ym 23 1,Yf 24 0 2,Yf 25 0 24,Yl 26 2 25,Yb 27 .sub 23 26,Yo 28 (.slSl 30 (.s 22) none (some (.s 27)) none),Yk 29 382 28,YM 6 29] (YR [2,4,6,7] [.norm [2,4,7],.reB 7 1 (some 16),.norm [2,4,7]] [Yf 30 0 2,Yf 31 0 30,Yl 32 2 31,Yo 33 (.build [i64 0,.sl .plain (some true) 0 []] [(0,1,.s 32)]),Yo 7 (.alloc 7 [i64 0,.sl .plain none 0 []]),Ys 2 7 7 33] (YR [4,6,7] [.norm [2,4,7],.reB 7 1 none,.norm [2,4,7]] [Yf 34 1 7,Yo 35 (.load none (some 7) true (.s 34)),Yf 36 0 2,Yf 37 1 36,Yl 38 2 37,Yo 39 (.append 16 16 false none none 35 (.s 38)),Yf 40 1 7,YO (.store none 7 true (.s 40) (.s 39))] (Yq (Yr [4,6,7,8] [Yc 8 0] (.block 0 (.loop z7ga))) z2ga)))
def z7ua:z6e:=
 {n:=2,wr:=[],res:=[.cell 4 (some 2) 4,.t 5],body:=YR [2,4] [.norm [2,4]] [Yx 2 2 3 0,Yo 4 (.alloc 4 [i64 0,.sl .plain none 0 []]),Yc 5 0] (Yq (YR [2,4,19] [.norm [2,4]] [Ym 9 1,Yf 10 0 2,Yf 11 0 10,Yl 12 2 11,Yb 13 .lss 9 12,Ym 14 13,Yg 14 (Ym 15 1),Yg 14 (YL 16 3 2 2),Yg 14 (Yk 17 375 16),Yg 14 (Yb 18 .gtr 15 17),YP 19 14 18] (Yd 19 (YR [4,5] [.norm [2,4]] [Yo 20 (.build [i64 0,.sl .plain none 0 []] []),Ys 2 4 4 20,Yc 5 11] .ret) (Yy [2,4]))) z5ha)}
def z3za:z6e:=
 {n:=1,wr:=[],res:=[.cell 2 (some 16) 2],body:=YR [1,2] [.norm [1,2]] [Yx 1 1 3 0,Yz 2 2 16] (YR [2,3] [.norm [1,2,3]] [YL 8 3 1 1,YL 9 3 1 1,Yk 10 375 9,YK 11 379 8 10,Ym 7 11,Ye 12 0 7,Ye 13 1 7,Yo 3 (.alloc 3 [i64 0,.sl .plain none 0 []]),Ys 2 3 3 12,Ym 4 13] (YR [2,5] [.norm [1,2,3,5]] [YL 15 2 3 3,Yk 16 213 15,Ym 14 16,Ye 17 0 14,Ye 18 1 14,Yz 5 5 16,Ys 16 5 5 17,Ym 6 18] (YR [2] [.norm [1,2,3,5]] [YL 19 16 5 5,Ys 16 2 2 19] .ret)))}
def z1T:z3a:=
 Yq (.block 1 (Yr [5,6] [Ym 18 0,Ym 19 5,Yi 20 30 18 19,YJ 21 30 20,Ym 22 1,Ym 23 5,Yi 24 30 22 23,YJ 25 30 24,YK 26 329 21 25,Ym 6 26] (Yr [5,28] [Ym 27 6,Yo 28 (.un .not (.s 27))] (Yd 28 (Yr [4] [Yw 4 false] .ret) (Yy [5]))))) (Yu [5] [Ym 16 5,YB 17 .add 16 1,Ym 5 17])
def z9R:z3a:=
 Yq (Yr [5,15] [Ym 12 5,Ym 13 0,Yn 14 13,Yb 15 .lss 12 14] (Yd 15 (Yy [5]) (YY []))) z1T
def z7R:z3a:=
 Yr [4] [Yw 4 true] .ret
def z5S:z3a:=
 Yq (Yr [5] [Yc 5 0] (.block 0 (.loop z9R))) z7R
def z91:z6e:=
 {n:=2,wr:=[],res:=[.t 4],body:=Yr [] [Yw 4 false] (Yq (Yr [11] [Ym 7 0,Yn 8 7,Ym 9 1,Yn 10 9,Yb 11 .neq 8 10] (Yd 11 (Yr [4] [Yw 4 false] .ret) (Yy []))) z5S)}
def z57:z3a:=
 Yq (.block 1 (Yu [3,4] [YM 11 3,Ym 12 0,Ym 13 4,Yi 14 30 12 13,YJ 15 30 14,Yk 16 334 15,Yo 17 (.buildSl 16 1 (bys (z9c 16)) [(0,16,.s 16)]),Yo 18 (.append 16 16 false none none 11 (.s 17)),YM 3 18])) (Yu [3,4] [Ym 9 4,YB 10 .add 9 1,Ym 4 10])
def z39:z3a:=
 Yq (Yr [3,4,8] [Ym 5 4,Ym 6 0,Yn 7 6,Yb 8 .lss 5 7] (Yd 8 (Yy [3,4]) (YY [3]))) z57
def z37:z3a:=
 Yr [2] [YM 19 3,YM 2 19] .ret
def z8ka:z6e:=
 {n:=1,wr:=[],res:=[.t 2],body:=Yr [] [Yo 2 (.mv true (.c (.sl (.own 16) none 0 [])))] (Yr [3] [Yo 3 (.mv true (.c (.sl (.own 16) none 0 [])))] (Yq (Yr [3,4] [Yc 4 0] (.block 0 (.loop z39))) z37))}
end Go.Abs
end
