/- Lemmas: an abstract interpreter, and what the functions compute. -/
import Derived.Test.YtepddcbbkhdfiaaGreatDoorQ
import Derived.Test.YtepddcbbkhdfiaaGreatDoorT
import Derived.Test.YtepddcbbkhdfiaaGreatDoorH
import Derived.Test.YtepddcbbkhdfiaaGreatDoorK
import Derived.Test.YtepddcbbkhdfiaaGreatDoorJ
import Derived.KernelRfl
set_option linter.unusedSimpArgs false
set_option linter.unusedVariables false
set_option linter.unusedSectionVars false
section
namespace Go.Abs
set_option maxRecDepth 100000
@[simp] theorem z37 (ids:List Nat) (f:Nat→List z0a) (n:Int):z9F ids f (i64 n)=i64 n:=rfl
@[simp] theorem z2ma (ids:List Nat) (f:Nat→List z0a) (b:Bool):z9F ids f (bo b)=bo b:=rfl
@[simp] theorem z7ka (ids:List Nat) (f:Nat→List z0a) (s:List UInt8):z9F ids f (st s)=st s:=rfl
theorem z8ib {l:List Int} (h:∀x∈l,z2e x) (hl:l.length≤1000000000):(z6y l).length≤9*l.length+9:=by
 have e1:=z7Aa (n:=(l.length:Int)) (by constructor<;>omega)
 have e2:=z2ta h
 rw[z6y,List.length_append]
 omega
theorem z2Nd {m:z3P} (h:m.ok):(z8Jb m).length≤97:=by
 have h1:=z8ib (z9ec h) (by simp[z6ha])
 have h2:=h.2.2.2.2.2.2.2
 rw[z8Jb,List.length_append,h2]
 simp only[z6ha,List.length_cons,List.length_nil] at h1⊢
 omega
theorem z4Kb:∀{l:List z3P},z59a l→(l.flatMap z8Jb).length≤97*l.length
 |[],_=>by simp
 |a::l,h=>by
  have h1:=z2Nd (h a (by simp))
  have h2:=z4Kb (l:=l) fun m hm=>h m (by simp[hm])
  rw[List.flatMap_cons,List.length_append,List.length_cons]
  omega
theorem z3tc {l:List Int} {n:Nat} {cs:List z0a} (nl:Option Bool) (h:∀x∈l,z2e x) (hl:l.length≤100000000) (hn:n=l.length) (hc:cs=z1Aa l):z1Xa.pre [.sl .plain nl n cs]=True:=by
 subst hn hc
 exact z8Vb hl h rfl
theorem z4cc {l:List Int} {n:Nat} {cs:List z0a} (nl:Option Bool) (hc:cs=z1Aa l):z1Xa.post [.sl .plain nl n cs]= .sl (.own 1) (some false) (z6y l).length (bys (z6y l)):=by
 subst hc
 rw[z1Xa,z1qb];rfl
theorem z0zc {x:z2n} (h:x.ok):∀z∈[x.time,x.kind,x.req,x.mode],z2e z:=by
 obtain⟨h1,h2,h3,h4,_⟩:=h
 intro z hz
 simp only[List.mem_cons,List.not_mem_nil,or_false] at hz
 rcases hz with rfl|rfl|rfl|rfl<;>assumption
def z26c (x:z2n):List UInt8:=z6y [x.time,x.kind,x.req,x.mode]++(z2X (z38b x.cmd)++(x.dig++z4r x.made.length))
theorem z7Bc (x:z2n):z9Db x=(z26c x++x.made.flatMap z8Jb)++z6y x.gone:=by simp[z9Db,z26c]
theorem z7ec {x:z2n} (h:x.small):(z26c x).length≤2000001000:=by
 have h1:=z8ib (z0zc h.1) (by simp)
 have h2:=z59b h.2.1
 have h3:=z7Aa (n:=((z38b x.cmd).length:Int)) (by constructor<;>omega)
 have h4:=z7Aa (n:=(x.made.length:Int)) (by have:=h.2.2.1;constructor<;>omega)
 have h5:=h.1.2.2.2.2.2.1
 simp only[List.length_cons,List.length_nil] at h1
 rw[z26c,z2X]
 simp only[List.length_append,h5]
 omega
set_option maxHeartbeats 16000000 in
theorem z38c (E:Env) (h39:E.G 39=z1Xa) (h130:E.G 130=z2Mb) (h7:E.G 7=z4tb) (h12:E.G 12=z2L) (h129:E.G 129=z8Na):∀ds,z5Sb.pre ds→ds.length=z7Ea.n∧awp E z7Ea.body (z6va z7Ea.res (z5Sb.post ds)) (z4H z7Ea.wr ds):=by
 rintro _ ⟨nc,nm,ng,x,hx,rfl⟩
 rw[z5Ib hx,z7Bc]
 have hd:=hx.1.2.2.2.2.2.1
 have h16:=hx.1.2.2.2.2.2.2.1
 have hgo:=hx.1.2.2.2.2.2.2.2
 have hml:=hx.2.2.1
 have hgl:=hx.2.2.2
 have hl:=z5Oa (nc:=nc) (nm:=nm) (ng:=ng) hd
 have h28:=z6Ib (nc:=nc) (nm:=nm) (ng:=ng) hd
 have h29:=z1Ib (nc:=nc) (nm:=nm) (ng:=ng) hd
 have hg:=z3Eb (nc:=nc) (nm:=nm) (ng:=ng) hd
 have hlen:=z4Va (z1Ca h16)
 have hHl:=z7ec hx
 have hc2:=z59b hx.2.1
 have hp4:z1Xa.pre [.sl .plain (some false) 4 [i64 x.time,i64 x.kind,i64 x.req,i64 x.mode]]=True:=z3tc (some false) (z0zc hx.1) (by simp) rfl rfl
 have hq4:z1Xa.post [.sl .plain (some false) 4 [i64 x.time,i64 x.kind,i64 x.req,i64 x.mode]]=_:=z4cc (l:=[x.time,x.kind,x.req,x.mode]) (some false) rfl
 have hpg:z1Xa.pre [.sl .plain ng x.gone.length (z1Aa x.gone)]=True:=z3tc ng hgo (by omega) rfl rfl
 have hqg:z1Xa.post [.sl .plain ng x.gone.length (z1Aa x.gone)]=_:=z4cc (l:=x.gone) ng rfl
 have hgle:=z8ib hgo (by omega)
 have hib:=z1bc (n:=(x.made.length:Int)) (by omega) (by omega)
 have hcp:z8Na.pre [.sl .plain (some false) 4 [.sl (.own 1) (some false) (z6y [x.time,x.kind,x.req,x.mode]).length (bys (z6y [x.time,x.kind,x.req,x.mode])),.sl (.own 1) (some false) (z2X (z38b x.cmd)).length (bys (z2X (z38b x.cmd))),.sl .plain (some false) 16 (bys x.dig),.sl (.own 1) (some false) (z4r x.made.length).length (bys (z4r x.made.length))]]=True:=by
  have:=z8Eb (nl:=some false) (n:=4) (ps:=[(true,some false,z6y [x.time,x.kind,x.req,x.mode]),(true,some false,z2X (z38b x.cmd)),(false,some false,x.dig),(true,some false,z4r x.made.length)]) (by
   have e:=hHl
   simp only[z26c,List.length_append] at e
   simp only[z8md,List.map_cons,List.map_nil,List.sum_cons,List.sum_nil]
   omega) (by simp) rfl
  rw[←hd]
  exact this
 have hcq:z8Na.post [.sl .plain (some false) 4 [.sl (.own 1) (some false) (z6y [x.time,x.kind,x.req,x.mode]).length (bys (z6y [x.time,x.kind,x.req,x.mode])),.sl (.own 1) (some false) (z2X (z38b x.cmd)).length (bys (z2X (z38b x.cmd))),.sl .plain (some false) 16 (bys x.dig),.sl (.own 1) (some false) (z4r x.made.length).length (bys (z4r x.made.length))]]= .sl (.own 1) none (z26c x).length (bys (z26c x)):=by
  have:=z3xb (some false) 4 [(true,some false,z6y [x.time,x.kind,x.req,x.mode]),(true,some false,z2X (z38b x.cmd)),(false,some false,x.dig),(true,some false,z4r x.made.length)]
  simp only[List.flatMap_cons,List.flatMap_nil,List.append_nil] at this
  rw[←hd]
  exact this
 generalize hH:z26c x=H at*
 generalize hG:z6y x.gone=G at*
 generalize h4:z6y [x.time,x.kind,x.req,x.mode]=e4 at*
 generalize hSS:z2X (z38b x.cmd)=eS at*
 generalize hN:z4r x.made.length=eN at*
 simp(maxSteps:=1000000) (disch:=first|omega|simp;done|simp;omega) [z7G,z8pa,z7pa,z7Ea,hl,h39,hp4,hq4,h130,z4Gc hx.2.1,z6Gb,h7,z9Gb,hSS,hg,h28,h12,hib,hN,h129,hcp,hcq,-z8pa,-List.length_append]
 refine z1g fun Q0 hQ0=> ?_
 refine z2v (fun i:Nat=>⟨[(0,.agg (z7va nc nm ng x))],[(1,.ep (z7va nc nm ng x)),(3,.sl (.own 1) none (H++(x.made.take i).flatMap z8Jb).length (bys (H++(x.made.take i).flatMap z8Jb))),(31,.sl .plain nm x.made.length (z0Ca x.made)),(32,i64 x.made.length),(33,i64 i)],[]⟩)
  (fun i=>x.made.length-i) (fun i=>i≤x.made.length) 0 (by simp) (by simp) fun i hi=> ?_
 refine z1g fun Q1 hQ1=> ?_
 have hBl:(H++(x.made.take i).flatMap z8Jb).length≤2000001000+97*i:=by
  have:=z4Kb (l:=x.made.take i) fun m hm=>h16 m (List.mem_of_mem_take hm)
  rw[List.length_append]
  rw[List.length_take] at this
  omega
 by_cases h1:i<x.made.length
 ·have hm:=h16 _ (z6fc h1)
  have hmd:=hm.2.2.2.2.2.2.2
  have ha:=z7Oc h16 h1
  have hmll:=z3Ja hmd
  have hle:24≤x.made.length*24-i*24:=by omega
  have hle2:i*24≤x.made.length*24:=by omega
  have hs:(x.made.take (i+1)).flatMap z8Jb=(x.made.take i).flatMap z8Jb++z8Jb (atD x.made i):=by
   rw[List.take_succ_eq_append_getElem h1,List.flatMap_append,z30b h1];simp
  have hnok:=z9ec hm
  have e8l:=z8ib hnok (by simp[z6ha])
  generalize hX:atD x.made i=X at*
  have sp:splice (i64 0::i64 0::i64 0::i64 0::i64 0::i64 0::i64 0::bo false::bys (z5j 16)) 0 (z5Ma X)=z5Ma X:=z5Uc hmd rfl
  have mtk:=z2Vd hmd
  have nl8:(z6ha X).length=8:=rfl
  rw[nl8] at e8l
  have key:∀r:Int,z4ae X.raw=r→z1Xa.pre [.sl .plain (some false) 8 [i64 X.id,i64 X.ty,i64 X.uses,i64 X.beg,i64 X.fin,i64 X.ver,i64 X.par,i64 r]]=True∧
    z1Xa.post [.sl .plain (some false) 8 [i64 X.id,i64 X.ty,i64 X.uses,i64 X.beg,i64 X.fin,i64 X.ver,i64 X.par,i64 r]]= .sl (.own 1) (some false) (z6y (z6ha X)).length (bys (z6y (z6ha X))):=by
   rintro r rfl
   exact⟨z3tc (l:=z6ha X) (some false) hnok (by rw[nl8];omega) rfl rfl,z4cc (l:=z6ha X) (some false) rfl⟩
  have hcat:z8Jb X=z6y (z6ha X)++X.dig:=rfl
  generalize hE:z6y (z6ha X)=e8 at*
  generalize hB:H++(x.made.take i).flatMap z8Jb=B at*
  have hcp8:z8Na.pre [.sl .plain (some false) 3 [.sl (.own 1) none B.length (bys B),.sl (.own 1) (some false) e8.length (bys e8),.sl .plain (some false) 16 (bys X.dig)]]=True:=by
   have:=z8Eb (nl:=some false) (n:=3) (ps:=[(true,none,B),(true,some false,e8),(false,some false,X.dig)]) (by
    simp only[z8md,List.map_cons,List.map_nil,List.sum_cons,List.sum_nil]
    omega) (by simp) rfl
   rw[←hmd]
   exact this
  have hcq8:z8Na.post [.sl .plain (some false) 3 [.sl (.own 1) none B.length (bys B),.sl (.own 1) (some false) e8.length (bys e8),.sl .plain (some false) 16 (bys X.dig)]]= .sl (.own 1) none (B++z8Jb X).length (bys (B++z8Jb X)):=by
   have:=z3xb (some false) 3 [(true,none,B),(true,some false,e8),(false,some false,X.dig)]
   simp only[List.flatMap_cons,List.flatMap_nil,List.append_nil] at this
   rw[←hmd,hcat]
   exact this
  have hs':H++(x.made.take (i+1)).flatMap z8Jb=B++z8Jb X:=by rw[hs,←List.append_assoc,hB]
  generalize hBX:B++z8Jb X=B' at*
  cases hr:X.raw
  ·obtain⟨k1,k2⟩:=key 0 (by rw[hr];rfl)
   simp(maxSteps:=1000000) (disch:=first|omega|simp;done|simp;omega) [z7G,z8pa,z7pa,z2Oa,z32a,z03a,kT,kF,dT,dF,h1,hlen,hle,hle2,ha,sp,hmll,mtk,z3zb,z3Mb,hr,h39,k1,k2,h129,hcp8,hcq8,z18d hmd,hmd,hQ1,-z8pa,-List.length_append]
   exact⟨i+1,by omega,by omega,⟨by rw[hs'],by rw[hs']⟩,by omega⟩
  ·obtain⟨k1,k2⟩:=key 1 (by rw[hr];rfl)
   simp(maxSteps:=1000000) (disch:=first|omega|simp;done|simp;omega) [z7G,z8pa,z7pa,z2Oa,z32a,z03a,kT,kF,dT,dF,h1,hlen,hle,hle2,ha,sp,hmll,mtk,z3zb,z3Mb,hr,h39,k1,k2,h129,hcp8,hcq8,z18d hmd,hmd,hQ1,-z8pa,-List.length_append]
   exact⟨i+1,by omega,by omega,⟨by rw[hs'],by rw[hs']⟩,by omega⟩
 ·obtain rfl:i=x.made.length:=by omega
  rw[List.take_length] at*
  generalize hB:H++x.made.flatMap z8Jb=B at*
  simp(maxSteps:=1000000) (disch:=first|omega|simp;done|simp;omega) [z7G,z8pa,z7pa,z2Oa,kT,kF,dT,dF,hQ1,hQ0,z1nb,hl,h29,h39,hpg,hqg,-List.length_append]
  exact⟨by omega,List.length_append,by rw[←hB,List.append_assoc]⟩
theorem z0jd (E:Env) (h302:E.G 302=z5Sb) (h8:E.G 8=ofC):∀ds,z9ub.pre ds→ds.length=z8Fa.n∧awp E z8Fa.body (z6va z8Fa.res (z9ub.post ds)) (z4H z8Fa.wr ds):=by
 rintro _ ⟨nc,nm,ng,x,hx,rfl⟩
 rw[z1wb hx]
 have hd:=hx.1.2.2.2.2.2.1
 have hl:=z5Oa (nc:=nc) (nm:=nm) (ng:=ng) hd
 have htk:=z4Pc (nc:=nc) (nm:=nm) (ng:=ng) hd
 have hle:(z9Db x).length≤2200000000:=by
  have h1:=z7ec hx
  have h2:=z4Kb hx.1.2.2.2.2.2.2.1
  have h3:=z8ib hx.1.2.2.2.2.2.2.2 (by have:=hx.2.2.2;omega)
  have h4:=hx.2.2.1
  have h5:=hx.2.2.2
  rw[z7Bc,List.length_append,List.length_append]
  omega
 have hp:ofC.pre [i64 8,.sl .plain (some false) 1 [st (z9Db x)]]=True:=z92d (l:=[z9Db x]) rfl (by rw[tot1];omega)
 simp(maxSteps:=1000000) (disch:=first|omega|simp;done|simp;omega) [z7G,z8pa,z7pa,z8Fa,hl,htk,h302,z3Cc hx,z5Ib hx,h8,hp,z8e,z1k,z9ua,z7ta,z0e]
end Go.Abs
end

section
namespace Go.Abs
set_option maxRecDepth 100000
def z5Lb:z1c:=
 Yd 20 (.region [2,4] [.norm [2,13]] [Ym 21 5,YI 22 1 21 0,Yj 23 22,Ym 24 5,YI 25 1 24 1,Yj 26 25,Ym 27 5,YI 28 1 27 2,Yj 29 28,Ym 30 5,YI 31 1 30 3,Yj 32 31,Yo 33 (.build (List.replicate 10 (i64 0)++[st []]++[.sl .plain none 0 []]++bys (z5j 16)++[.sl .plain (some true) 0 []]++[.sl .plain none 0 []]) [(0,1,.s 23),(1,1,.s 26),(2,1,.s 29),(3,1,.s 32)]),Ys 30 2 2 33]) (Yy [2,4])
def z1Hb:z1c:=
 Yd 53 (Yy [2,4,7,8]) (YY [2,4])
def z4Gb:z1c:=
 Yd 70 (.region [2,4,7,8] [.norm [2,13]] [Yf 71 28 2,Yo 72 (.load none (some 2) true (.s 71)),Ym 73 9,YI 74 1 73 0,Yj 75 74,Ym 76 9,YI 77 1 76 1,Yj 78 77,Ym 79 9,YI 80 1 79 2,Yj 81 80,Ym 82 9,YI 83 1 82 3,Yj 84 83,Ym 85 9,YI 86 1 85 4,Yj 87 86,Ym 88 9,YI 89 1 88 5,Yj 90 89,Ym 91 9,YI 92 1 91 6,Yj 93 92,Ym 94 9,YI 95 1 94 7,Yj 96 95,YB 97 .eql 96 1,Ym 98 4,Yo 99 (.callm 325 none [.s 98,.c (.fn 320 [] [])] [(0,13)] []),Yo 100 (.build (List.replicate 7 (i64 0)++[bo false]++bys (z5j 16)) [(0,1,.s 75),(1,1,.s 78),(2,1,.s 81),(3,1,.s 84),(4,1,.s 87),(5,1,.s 90),(6,1,.s 93),(7,1,.s 97),(8,16,.s 99)]),Yo 101 (.buildSl 24 1 [i64 0,i64 0,i64 0,i64 0,i64 0,i64 0,i64 0,bo false,u8 0,u8 0,u8 0,u8 0,u8 0,u8 0,u8 0,u8 0,u8 0,u8 0,u8 0,u8 0,u8 0,u8 0,u8 0,u8 0] [(0,24,.s 100)]),YN 102 24 80 72 101,Yf 103 28 2,YS 2 103 102]) (Yy [2,4,7,8])
def z1Jb:z1c:=
 YR [2,4,7,8,9,70] [.norm [2,13],.reB 2 28 (some 24),.norm [2,13]] [Ym 58 4,Ym 59 9,Yn 60 59,YB 61 .eql 60 8,Yo 62 (.callm 316 none [.s 58,.s 61,.c (i64 6)] [(0,13)] []),Ym 63 62,YG 63 (Ym 64 4),YG 63 (Ym 65 9),YG 63 (YI 66 1 65 7),YG 63 (Yj 67 66),YG 63 (YD 68 295 67 0 1),YG 63 (Yo 69 (.callm 316 none [.s 64,.s 68,.c (i64 6)] [(0,13)] [])),Yp 70 63 69] z4Gb
def z0Ib:z1c:=
 Yq (.block 1 (YR [2,4,7,8,9] [.norm [2,13]] [Ym 56 4,Yo 57 (.callm 323 none [.s 56,.c (.fn 52 [] [])] [(0,13)] []),YM 9 57] z1Jb)) (Yu [2,4,7,8] [Ym 54 8,YB 55 .add 54 1,Ym 8 55])
def z1Ob:z1c:=
 Yq (YR [2,4,7,8,53] [.norm [2,13]] [Ym 45 4,Ym 46 7,YD 47 295 46 0 4096,Yo 48 (.callm 316 none [.s 45,.s 47,.c (i64 6)] [(0,13)] []),Ym 49 48,YG 49 (Ym 50 8),YG 49 (Ym 51 7),YG 49 (Yb 52 .lss 50 51),Yp 53 49 52] z1Hb) z0Ib
def z1Qb:z1c:=
 .block 0 (.loop z1Ob)
def z6Jb:z1c:=
 Yd 119 (YR [2,3] [.norm [2,13]] [Yo 120 (.build (List.replicate 10 (i64 0)++[st []]++[.sl .plain none 0 []]++bys (z5j 16)++[.sl .plain none 0 []]++[.sl .plain none 0 []]) []),Ym 121 4,YV 122 121,Yf 123 1 122,Yl 124 13 123,Ys 30 2 2 120,Ym 3 124] .ret) (Yy [2])
def z4Ib:z1c:=
 YR [2,3] [.norm [2,13]] [YL 125 30 2 2,Ys 30 2 2 125,Yc 3 0] .ret
def z7Ib:z1c:=
 Yq (YR [2,4,119] [.norm [2,13]] [Ym 107 4,Ym 108 4,YV 109 108,Yf 110 0 109,Yl 111 13 110,Yn 112 111,YB 113 .eql 112 0,Ym 114 113,YG 114 (YL 115 30 2 2),YG 114 (Yk 116 300 115),Yp 117 114 116,Yo 118 (.callm 316 none [.s 107,.s 117,.c (i64 6)] [(0,13)] []),YU 119 .not 118] z6Jb) z4Ib
def z6Kb:z1c:=
 YR [2,4] [.norm [2,13]] [Ym 104 4,Yo 105 (.callm 323 none [.s 104,.c (.fn 52 [] [])] [(0,13)] []),Yf 106 29 2,YO (.store none 2 true (.s 106) (.s 105))] z7Ib
def z3Rb:z1c:=
 Yq (Yr [2,4,7,8] [Yc 8 0] z1Qb) z6Kb
def z4Ob:z1c:=
 YR [2,4,7] [.norm [2,13]] [Ym 43 4,Yo 44 (.callm 326 none [.s 43,.c (.fn 45 [] [])] [(0,13)] []),Ym 7 44] z3Rb
def z6Ob:z1c:=
 YR [2,4] [.norm [2,13]] [Ym 40 4,Yo 41 (.callm 325 none [.s 40,.c (.fn 320 [] [])] [(0,13)] []),Yf 42 12 2,Ys 16 2 42 41] z4Ob
def z8Qb:z1c:=
 YR [2,4] [.norm [2,13]] [Ym 36 4,Ym 37 6,Yo 38 (.callm 318 none [.s 36,.s 37] [(0,13)] []),Yf 39 4 2,Ys 8 2 39 38] z6Ob
def z2Pb:z1c:=
 YR [2,4,6] [.norm [2,13]] [Ym 34 4,Yo 35 (.callm 324 none [.s 34,.c (.fn 48 [] [])] [(0,13)] []),Ym 6 35] z8Qb
def z5Ob:z1c:=
 Yq (YR [2,4,5,20] [.norm [2,13]] [Ym 16 4,Ym 17 5,Yn 18 17,YB 19 .eql 18 4,Yo 20 (.callm 316 none [.s 16,.s 19,.c (i64 6)] [(0,13)] [])] z5Lb) z2Pb
def z1Pb:z1c:=
 YR [2,4,5] [.norm [2,13]] [Ym 14 4,Yo 15 (.callm 323 none [.s 14,.c (.fn 52 [] [])] [(0,13)] []),YM 5 15] z5Ob
def z9Lb:z1c:=
 YR [2,4] [.norm [2,13]] [Ym 10 0,Yo 11 (.toBytes (.s 10)),Yo 12 (.build [.sl .plain none 0 [],i64 0] [(0,1,.s 11)]),Yx 13 13 2 12,Ym 4 13] z1Pb
def z75b:z1ka:=
 {n:=1,wr:=[],res:=[.cell 2 (some 30) 2,.t 3],body:=YR [2] [.norm [2]] [Yo 2 (.alloc 2 (List.replicate 10 (i64 0)++[st []]++[.sl .plain none 0 []]++bys (z5j 16)++[.sl (.own 24) none 0 []]++[.sl (.own 1) none 0 []])),Yc 3 0] z9Lb}
def z8ab:z1c:=
 Yd 12 (Yr [0,4] [YM 13 4,YM 4 13] .ret) (Yy [0,1,4])
def z7ab:z1c:=
 Yr [0,4] [YM 30 4,YM 4 30] .ret
def z4bb:z1c:=
 Yd 25 (YR [0,4] [.norm [0]] [Ym 26 0,Ym 27 7,YV 28 26,Yf 29 1 28,YS 0 29 27] z7ab) (Yy [0,5,6])
def z3bb:z1c:=
 Yr [0,4] [YM 40 5,YM 4 40] .ret
def z1bb:z1c:=
 YR [0,5] [.norm [0]] [Ym 31 0,Ym 32 0,YV 33 32,Yf 34 0 33,Yl 35 0 34,Ym 36 6,YF 37 1 35 36,YV 38 31,Yf 39 0 38,YO (.store none 0 true (.s 39) (.s 37))] z3bb
def z99a:z1c:=
 Yq (Yr [0,4,5,6,7,25] [Ym 24 7,YB 25 .neq 24 0] z4bb) z1bb
def z89a:z1c:=
 YR [0,4,5,6,7] [.norm [0]] [Ym 15 1,Ym 16 0,YV 17 16,Yf 18 0 17,Yl 19 0 18,Yo 20 (.callv 52 (.s 15) [.s 19] []),Ym 14 20,Ye 21 0 14,Ye 22 1 14,Ye 23 2 14,YM 5 21,Ym 6 22,Ym 7 23] z99a
def z4ab:z1c:=
 Yq (YR [0,1,4,12] [.norm [0]] [Ym 8 0,YV 9 8,Yf 10 1 9,Yl 11 0 10,YB 12 .neq 11 0] z8ab) z89a
def z8Aa:z1ka:=
 {n:=2,wr:=[],res:=[.t 4],body:=Yr [0,1,4] [Yv 4 1] z4ab}
def z3tb:z1c:=
 Yd 15 (.region [0] [.norm [0]] [Ym 16 0,Ym 17 2,YV 18 16,Yf 19 1 18,YS 0 19 17]) (Yy [0])
def z6sb:z1c:=
 YR [0,6] [.norm [0]] [Ym 20 0,YV 21 20,Yf 22 1 21,Yl 23 0 22,YB 24 .eql 23 0,Ym 6 24] .ret
def z5sb:z1c:=
 Yq (YR [0,2,15] [.norm [0]] [Ym 7 0,YV 8 7,Yf 9 1 8,Yl 10 0 9,YB 11 .eql 10 0,Ym 12 11,YG 12 (Ym 13 1),YG 12 (YU 14 .not 13),Yp 15 12 14] z3tb) z6sb
def z3Ga:z1ka:=
 {n:=3,wr:=[],res:=[.t 6],body:=Yr [0,1,2] [Yw 6 false] z5sb}
def z18a:z1c:=
 Yd 12 (Yr [0,4] [Ym 13 4,Ym 4 13] .ret) (Yy [0,1,4])
def z87a:z1c:=
 Yr [0,4] [Ym 30 4,Ym 4 30] .ret
def z09a:z1c:=
 Yd 25 (YR [0,4] [.norm [0]] [Ym 26 0,Ym 27 7,YV 28 26,Yf 29 1 28,YS 0 29 27] z87a) (Yy [0,5,6])
def z38a:z1c:=
 Yr [0,4] [Ym 40 5,Ym 4 40] .ret
def z48a:z1c:=
 YR [0,5] [.norm [0]] [Ym 31 0,Ym 32 0,YV 33 32,Yf 34 0 33,Yl 35 0 34,Ym 36 6,YF 37 1 35 36,YV 38 31,Yf 39 0 38,YO (.store none 0 true (.s 39) (.s 37))] z38a
def z58a:z1c:=
 Yq (Yr [0,4,5,6,7,25] [Ym 24 7,YB 25 .neq 24 0] z09a) z48a
def z88a:z1c:=
 YR [0,4,5,6,7] [.norm [0]] [Ym 15 1,Ym 16 0,YV 17 16,Yf 18 0 17,Yl 19 0 18,Yo 20 (.callv 48 (.s 15) [.s 19] []),Ym 14 20,Ye 21 0 14,Ye 22 1 14,Ye 23 2 14,Ym 5 21,Ym 6 22,Ym 7 23] z58a
def z28a:z1c:=
 Yq (YR [0,1,4,12] [.norm [0]] [Ym 8 0,YV 9 8,Yf 10 1 9,Yl 11 0 10,YB 12 .neq 11 0] z18a) z88a
def z6za:z1ka:=
 {n:=2,wr:=[],res:=[.t 4],body:=Yr [0,1,4] [Yo 4 (.mv false (.c (st [])))] z28a}
def z4lb:z1c:=
 .region [0,4,5,22,23,24] [.norm [0,4,15,22]] [Ym 28 7,Ym 29 5,Yo 30 (.callm 326 none [.s 29,.c (.fn 45 [] [])] [(0,15)] []),YV 31 28,YS 4 31 30]
def z7kb:z1c:=
 Yq (.block 1 (YR [0,4,5,7,22,23,24] [.norm [0,4,15,22]] [Yi 26 1 22 24,Yl 27 22 26,Ym 7 27] z4lb)) (Yu [0,4,5,22,23,24] [YB 32 .add 24 1,Ym 24 32])
def z6mb:z1c:=
 Yq (Yd 25 (Yy [0,4,5,22,23,24]) (YY [0,4,5])) z7kb
def z0lb:z1c:=
 Yr [0,4,5,22,23,24,25] [Yb 25 .lss 24 23] z6mb
def z2lb:z1c:=
 .block 0 (.loop z0lb)
def z6gb:z1c:=
 YR [0,4] [.norm [0,4,15,22]] [YL 54 8 4 4,Ys 8 4 4 54] .ret
def z3mb:z1c:=
 YR [0,4] [.norm [0,4,15,22]] [Ym 47 0,Ym 48 5,YV 49 48,Yf 50 1 49,Yl 51 15 50,YV 52 47,Yf 53 1 52,YS 0 53 51] z6gb
def z9kb:z1c:=
 YR [0,4,5] [.norm [0,4,15,22]] [Ym 39 5,Ym 40 5,YV 41 40,Yf 42 0 41,Yl 43 15 42,Yn 44 43,YB 45 .eql 44 0,Yo 46 (.callm 316 none [.s 39,.s 45,.c (i64 6)] [(0,15)] [])] z3mb
def z5lb:z1c:=
 YR [0,4,5] [.norm [0,4,15,22]] [Ym 36 5,Yo 37 (.callm 323 none [.s 36,.c (.fn 52 [] [])] [(0,15)] []),Yf 38 7 4,YO (.store none 4 true (.s 38) (.s 37))] z9kb
def z0mb:z1c:=
 YR [0,4,5] [.norm [0,4,15,22]] [Ym 33 5,Yo 34 (.callm 324 none [.s 33,.c (.fn 48 [] [])] [(0,15)] []),Yf 35 6 4,YS 4 35 34] z5lb
def z5mb:z1c:=
 Yq (YR [0,4,5,22,23,24] [.norm [0,4,15,22]] [Yf 16 0 4,Yf 17 1 4,Yf 18 2 4,Yf 19 3 4,Yf 20 4 4,Yf 21 5 4,Yo 22 (.buildBx 22 1 6 [.lit (.pointer none),.lit (.pointer none),.lit (.pointer none),.lit (.pointer none),.lit (.pointer none),.lit (.pointer none)] [(0,1,.s 16),(1,1,.s 17),(2,1,.s 18),(3,1,.s 19),(4,1,.s 20),(5,1,.s 21)]),Yn 23 22,Yc 24 0] z2lb) z0mb
def z1mb:z1c:=
 YR [0,4,5] [.norm [0,4,15]] [Ym 8 1,Yo 9 (.toBytes (.s 8)),Ym 10 0,YV 11 10,Yf 12 1 11,Yl 13 0 12,Yo 14 (.build [.sl .plain none 0 [],i64 0] [(0,1,.s 9),(1,1,.s 13)]),Yx 15 15 2 14,Ym 5 15] z5mb
def z5Da:z1ka:=
 {n:=2,wr:=[],res:=[.cell 4 (some 8) 4],body:=YR [0,1,4] [.norm [0,4]] [Yo 4 (.alloc 4 (List.replicate 6 (i64 0)++[st []]++[.sl .plain none 0 []]))] z1mb}
def z2ab:z1c:=
 Yd 12 (YR [0,4] [.norm [0,4]] [YL 13 16 4 4,Ys 16 4 4 13] .ret) (Yy [0,1,4])
def z3ab:z1c:=
 YR [0,4] [.norm [0,4,5]] [YL 30 16 4 4,Ys 16 4 4 30] .ret
def z79a:z1c:=
 Yd 25 (YR [0,4] [.norm [0,4,5]] [Ym 26 0,Ym 27 7,YV 28 26,Yf 29 1 28,YS 0 29 27] z3ab) (Yy [0,4,5,6])
def z69a:z1c:=
 YR [0,4] [.norm [0,4,5]] [YL 40 16 5 5,Ys 16 4 4 40] .ret
def z2bb:z1c:=
 YR [0,4,5] [.norm [0,4,5]] [Ym 31 0,Ym 32 0,YV 33 32,Yf 34 0 33,Yl 35 0 34,Ym 36 6,YF 37 1 35 36,YV 38 31,Yf 39 0 38,YO (.store none 0 true (.s 39) (.s 37))] z69a
def z0bb:z1c:=
 Yq (Yr [0,4,5,6,7,25] [Ym 24 7,YB 25 .neq 24 0] z79a) z2bb
def z5ab:z1c:=
 YR [0,4,5,6,7] [.norm [0,4,5]] [Ym 15 1,Ym 16 0,YV 17 16,Yf 18 0 17,Yl 19 0 18,Yo 20 (.callv 320 (.s 15) [.s 19] []),Ym 14 20,Ye 21 0 14,Ye 22 1 14,Ye 23 2 14,Yz 5 5 16,Ys 16 5 5 21,Ym 6 22,Ym 7 23] z0bb
def z0ab:z1c:=
 Yq (YR [0,1,4,12] [.norm [0,4]] [Ym 8 0,YV 9 8,Yf 10 1 9,Yl 11 0 10,YB 12 .neq 11 0] z2ab) z5ab
def z4Aa:z1ka:=
 {n:=2,wr:=[],res:=[.cell 4 (some 16) 4],body:=YR [0,1,4] [.norm [0,4]] [Yz 4 4 16] z0ab}
def z3Lb:z1c:=
 Yd 7 (YR [2,3,4] [.norm [2]] [YL 8 16 2 2,Ys 16 2 2 8,Yc 3 0,Yc 4 5] .ret) (Yy [2])
def z0Qb:z1c:=
 YR [2,3,4] [.norm [2]] [Ym 9 0,Yo 10 (.slSl 1 (.s 9) none (some (.c (i64 16))) none),Yo 11 (.s2ap 16 (.s 10)),YJ 12 16 11,Ys 16 2 2 12,Yc 3 16,Yc 4 0] .ret
def z5Mb:z1c:=
 Yq (Yr [2,7] [Ym 5 0,Yn 6 5,YB 7 .lss 6 16] z3Lb) z0Qb
def z74b:z1ka:=
 {n:=1,wr:=[],res:=[.cell 2 (some 16) 2,.t 3,.t 4],body:=YR [2] [.norm [2]] [Yz 2 2 16,Yc 3 0,Yc 4 0] z5Mb}
def z0gb:z1c:=
 Yd 12 (Yr [0,4] [Ym 13 4,Ym 4 13] .ret) (Yy [0,1,4])
def z6fb:z1c:=
 Yr [0,4] [Ym 30 4,Ym 4 30] .ret
def z1db:z1c:=
 Yd 25 (YR [0,4] [.norm [0]] [Ym 26 0,Ym 27 7,YV 28 26,Yf 29 1 28,YS 0 29 27] z6fb) (Yy [0,5,6])
def z6db:z1c:=
 Yr [0,4] [Ym 40 5,Ym 4 40] .ret
def z4db:z1c:=
 YR [0,5] [.norm [0]] [Ym 31 0,Ym 32 0,YV 33 32,Yf 34 0 33,Yl 35 0 34,Ym 36 6,YF 37 1 35 36,YV 38 31,Yf 39 0 38,YO (.store none 0 true (.s 39) (.s 37))] z6db
def z8fb:z1c:=
 Yq (Yr [0,4,5,6,7,25] [Ym 24 7,YB 25 .neq 24 0] z1db) z4db
def z2eb:z1c:=
 YR [0,4,5,6,7] [.norm [0]] [Ym 15 1,Ym 16 0,YV 17 16,Yf 18 0 17,Yl 19 0 18,Yo 20 (.callv 45 (.s 15) [.s 19] []),Ym 14 20,Ye 21 0 14,Ye 22 1 14,Ye 23 2 14,Ym 5 21,Ym 6 22,Ym 7 23] z8fb
def z8eb:z1c:=
 Yq (YR [0,1,4,12] [.norm [0]] [Ym 8 0,YV 9 8,Yf 10 1 9,Yl 11 0 10,YB 12 .neq 11 0] z0gb) z2eb
def z4Ba:z1ka:=
 {n:=2,wr:=[],res:=[.t 4],body:=Yr [0,1,4] [Yc 4 0] z8eb}
end Go.Abs
end

section
namespace Go.Abs
set_option maxRecDepth 100000
end Go.Abs
end

section
namespace Go.Abs
def M32:Nat:=4294967296
def rx (y n:Nat):Nat:=Nat.shiftRight y n
def dbl (x:Nat):Nat:=Nat.mul 4294967297 x
theorem z2Hb (x:UInt32) {n:Nat} (hn:n≤32):(z1w x n).toNat=rx (dbl x.toNat) n% 2^32:=by
 have hx:=x.toNat_lt
 have e1:(z1w x n).toNat=(x.toNat>>>n)|||((x.toNat<<<(32-n))% 2^32):=by
  rw[z1w,UInt32.toNat_or]
  show(x.toBitVec>>>n).toNat|||(x.toBitVec<<<(32-n)).toNat=_
  rw[BitVec.toNat_ushiftRight,BitVec.toNat_shiftLeft]
  rfl
 have e2:rx (dbl x.toNat) n=(2^32*x.toNat+x.toNat)>>>n:=by
  show(4294967297*x.toNat)>>>n=_
  congr 1
  omega
 rw[e1,e2]
 apply Nat.eq_of_testBit_eq
 intro i
 rw[Nat.testBit_or,Nat.testBit_shiftRight,Nat.testBit_mod_two_pow,Nat.testBit_shiftLeft,Nat.testBit_mod_two_pow,Nat.testBit_shiftRight,Nat.testBit_two_pow_mul_add _ hx]
 by_cases hi:i<32
 ·by_cases h:n+i<32
  ·have h0:¬32-n≤i:=by omega
   simp[hi,h,h0]
  ·have h0:32-n≤i:=by omega
   have hf:x.toNat.testBit (n+i)=false:=Nat.testBit_lt_two_pow (Nat.lt_of_lt_of_le hx (Nat.pow_le_pow_right (by decide) (by omega)))
   simp[hi,h,h0,hf]
   congr 1
   omega
 ·have hf:x.toNat.testBit (n+i)=false:=Nat.testBit_lt_two_pow (Nat.lt_of_lt_of_le hx (Nat.pow_le_pow_right (by decide) (by omega)))
  simp[hi,hf]
def xo3 (y i j k:Nat):Nat:=Nat.mod (Nat.xor (Nat.xor (rx y i) (rx y j)) (rx y k)) M32
theorem z4pd (x:UInt32) {i j k:Nat} (hi:i≤32) (hj:j≤32) (hk:k≤32):(z1w x i^^^z1w x j^^^z1w x k).toNat=xo3 (dbl x.toNat) i j k:=by
 rw[UInt32.toNat_xor,UInt32.toNat_xor,z2Hb x hi,z2Hb x hj,z2Hb x hk]
 show _=((rx (dbl x.toNat) i^^^rx (dbl x.toNat) j)^^^rx (dbl x.toNat) k)% 2^32
 rw[Nat.xor_mod_two_pow,Nat.xor_mod_two_pow]
def xo2 (x y i j k:Nat):Nat:=Nat.xor (Nat.mod (Nat.xor (rx y i) (rx y j)) M32) (Nat.shiftRight x k)
theorem z0pd (x:UInt32) {i j:Nat} (k:Nat) (hi:i≤32) (hj:j≤32):(z1w x i^^^z1w x j^^^z9q x k).toNat=xo2 x.toNat (dbl x.toNat) i j k:=by
 rw[UInt32.toNat_xor,UInt32.toNat_xor,z2Hb x hi,z2Hb x hj]
 show _=((rx (dbl x.toNat) i^^^rx (dbl x.toNat) j)% 2^32)^^^(x.toNat>>>k)
 rw[Nat.xor_mod_two_pow]
 rfl
structure N8 where
 a:Nat
 b:Nat
 c:Nat
 d:Nat
 e:Nat
 f:Nat
 g:Nat
 h:Nat
def toN (s:H8):N8:=⟨s.a.toNat,s.b.toNat,s.c.toNat,s.d.toNat,s.e.toNat,s.f.toNat,s.g.toNat,s.h.toNat⟩
def z1ee (k w:Nat) (s:N8):N8:=
 (fun x y=>N8.mk (Nat.mod (Nat.add x y) M32) s.a s.b s.c (Nat.mod (Nat.add s.d x) M32) s.e s.f s.g)
  (Nat.add (Nat.add (Nat.add (Nat.add s.h (xo3 (dbl s.e) 6 11 25)) (Nat.xor (Nat.land s.e s.f) (Nat.land (Nat.sub 4294967295 s.e) s.g))) k) w)
  (Nat.add (xo3 (dbl s.a) 2 13 22) (Nat.xor (Nat.xor (Nat.land s.a s.b) (Nat.land s.a s.c)) (Nat.land s.b s.c)))
theorem z0ge (k w:UInt32) (s:H8):toN (rnd k w s)=z1ee k.toNat w.toNat (toN s):=by
 have h1:=z4pd s.e (i:=6) (j:=11) (k:=25) (by decide) (by decide) (by decide)
 have h2:=z4pd s.a (i:=2) (j:=13) (k:=22) (by decide) (by decide) (by decide)
 have h3:(~~~s.e).toNat=4294967295-s.e.toNat:=by rw[UInt32.toNat_not];rfl
 simp only[toN,rnd,z1ee,N8.mk.injEq,and_true,true_and]
 rw[←h1,←h2]
 generalize(z1w s.e 6^^^z1w s.e 11^^^z1w s.e 25)=S1
 generalize(z1w s.a 2^^^z1w s.a 13^^^z1w s.a 22)=S0
 simp only[UInt32.toNat_add,UInt32.toNat_xor,UInt32.toNat_and,h3]
 show _=(_+_+((s.e.toNat&&&s.f.toNat)^^^((4294967295-s.e.toNat)&&&s.g.toNat))+_+_+(_+((s.a.toNat&&&s.b.toNat)^^^(s.a.toNat&&&s.c.toNat)^^^(s.b.toNat&&&s.c.toNat))))% M32∧_=(s.d.toNat+(_+_+((s.e.toNat&&&s.f.toNat)^^^((4294967295-s.e.toNat)&&&s.g.toNat))+_+_))% M32
 simp only[M32]
 omega
def z9Kc:List Nat→List Nat→N8→N8
 |[],_,s=>s
 |_::_,[],s=>s
 |k::ks,w::ws,s=>z9Kc ks ws (z1ee k w s)
theorem z16b (k w:Nat):∀(ks ws:List Nat) (s:N8),ks.length=ws.length→z9Kc (ks++[k]) (ws++[w]) s=z1ee k w (z9Kc ks ws s)
 |[],[],s,_=>rfl
 |[],_::_,_,h=>by simp at h
 |_::_,[],_,h=>by simp at h
 |k'::ks,w'::ws,s,h=>by
  simp only[List.cons_append,z9Kc]
  exact z16b k w ks ws _ (by simpa using h)
def n32 (l:List UInt32):List Nat:=l.map UInt32.toNat
theorem z0rd {l:List UInt32} {i:Nat} (h:i<l.length):l.take (i+1)=l.take i++[z8i l i]:=by
 rw[List.take_succ_eq_append_getElem h,z8i,List.getD,List.getElem?_eq_getElem h];rfl
theorem z0qd (w:List UInt32) (s:H8) (hw:w.length=64):∀t,t≤64→toN (z24b w s t)=z9Kc (n32 (kc.take t)) (n32 (w.take t)) (toN s)
 |0,_=>rfl
 |t+1,h=>by
  have hk:kc.length=64:=rfl
  have e1:n32 (kc.take (t+1))=n32 (kc.take t)++[(z8i kc t).toNat]:=by rw[z0rd (l:=kc) (by omega)];simp[n32]
  have e2:n32 (w.take (t+1))=n32 (w.take t)++[(z8i w t).toNat]:=by rw[z0rd (l:=w) (by omega)];simp[n32]
  rw[z24b,z0ge,z0qd w s hw t (by omega),e1,e2]
  exact(z16b _ _ _ _ _ (by simp[n32];omega)).symm
def z0ce:Nat→List Nat→List Nat
 |0,acc=>acc
 |n+1,acc=>z0ce n ((fun p q=>Nat.mod (Nat.add (Nat.add (Nat.add (acc.getD 15 0) (xo2 p (dbl p) 7 18 3)) (acc.getD 6 0)) (xo2 q (dbl q) 17 19 10)) M32) (acc.getD 14 0) (acc.getD 1 0)::acc)
theorem z0Ec (w:List UInt32) {i:Nat} (h:i<w.length):(n32 w.reverse).getD i 0=(z8i w (w.length-1-i)).toNat:=by
 rw[n32,List.getD,List.getElem?_map,List.getElem?_eq_getElem (by simpa using h),List.getElem_reverse,z8i,List.getD,List.getElem?_eq_getElem (by omega)]
 rfl
theorem z5Wc (b:List UInt8):∀(n t:Nat),16≤t→z0ce n (n32 (z4N b t).reverse)=n32 (z4N b (t+n)).reverse
 |0,_,_=>rfl
 |n+1,t,ht=>by
  have hl:=z6Ea b t
  rw[z0ce,z0Ec _ (by omega),z0Ec _ (by omega),z0Ec _ (by omega),z0Ec _ (by omega),hl]
  have hs:n32 (z4N b (t+1)).reverse=(z8ha b t (z4N b t)).toNat::n32 (z4N b t).reverse:=by simp[z4N,n32]
  have e:(z8ha b t (z4N b t)).toNat=Nat.mod (Nat.add (Nat.add (Nat.add (z8i (z4N b t) (t-1-15)).toNat (xo2 (z8i (z4N b t) (t-1-14)).toNat (dbl (z8i (z4N b t) (t-1-14)).toNat) 7 18 3)) (z8i (z4N b t) (t-1-6)).toNat) (xo2 (z8i (z4N b t) (t-1-1)).toNat (dbl (z8i (z4N b t) (t-1-1)).toNat) 17 19 10)) M32:=by
   rw[z8ha,if_neg (by omega),sg0,sg1,UInt32.toNat_add,UInt32.toNat_add,UInt32.toNat_add,z0pd _ 3 (by decide) (by decide),z0pd _ 10 (by decide) (by decide)]
   simp only[Nat.sub_sub]
   show _=(_+_+_+_)% M32
   simp only[M32,Nat.reduceAdd]
   omega
  have e':=(congrArg (· ::n32 (z4N b t).reverse) e).symm.trans hs.symm
  have h':=z5Wc b n (t+1) (by omega)
  rw[←e',Nat.add_assoc,Nat.add_comm 1 n] at h'
  exact h'
def wd (b:List UInt8) (t:Nat):Nat:=Nat.add (Nat.mul 256 (Nat.add (Nat.mul 256 (Nat.add (Nat.mul 256 (at8 b (4*t)).toNat) (at8 b (4*t+1)).toNat)) (at8 b (4*t+2)).toNat)) (at8 b (4*t+3)).toNat
theorem or8 {x:UInt32} {N:Nat} (hx:x.toNat=N) (hN:N<16777216) (c:UInt8):(z8A x 8|||c.toUInt32).toNat=256*N+c.toNat:=by
 subst hx
 have hc:=c.toNat_lt
 rw[UInt32.toNat_or]
 show((x.toBitVec<<<8).toNat|||c.toUInt32.toNat)=_
 rw[BitVec.toNat_shiftLeft,UInt8.toNat_toUInt32]
 show(x.toNat<<<8% 2^32|||c.toNat)=_
 rw[Nat.mod_eq_of_lt (by rw[Nat.shiftLeft_eq];omega),←Nat.shiftLeft_add_eq_or_of_lt (by omega),Nat.shiftLeft_eq]
 omega
theorem z9ke (b:List UInt8) (t:Nat):(ldw b t 4).toNat=wd b t:=by
 have h0:=(at8 b (4*t)).toNat_lt
 have h1:=(at8 b (4*t+1)).toNat_lt
 have h2:=(at8 b (4*t+2)).toNat_lt
 have e1:(ldw b t 1).toNat=(at8 b (4*t)).toNat:=by rw[ldw,ldw,or8 (N:=0) rfl (by decide)];simp
 have e2:(ldw b t 2).toNat=256*(at8 b (4*t)).toNat+(at8 b (4*t+1)).toNat:=by rw[ldw,or8 e1 (by omega)]
 have e3:(ldw b t 3).toNat=256*(256*(at8 b (4*t)).toNat+(at8 b (4*t+1)).toNat)+(at8 b (4*t+2)).toNat:=by rw[ldw,or8 e2 (by omega)]
 rw[ldw,or8 e3 (by omega)]
 rfl
def z99d:Nat→List UInt8→List Nat→List Nat
 |n+1,a::b::c::d::r,acc=>z99d n r (Nat.add (Nat.mul 256 (Nat.add (Nat.mul 256 (Nat.add (Nat.mul 256 a.toNat) b.toNat)) c.toNat)) d.toNat::acc)
 |_,_,acc=>acc
theorem z1md (b:List UInt8) (hb:b.length=64):∀(n t:Nat),n+t=16→z99d n (b.drop (4*t)) (n32 (z4N b t).reverse)=n32 (z4N b 16).reverse
 |0,t,h=>by
  have:t=16:=by omega
  subst this
  rfl
 |n+1,t,h=>by
  have hd:b.drop (4*t)=at8 b (4*t)::at8 b (4*t+1)::at8 b (4*t+2)::at8 b (4*t+3)::b.drop (4*(t+1)):=by
   rw[List.drop_eq_getElem_cons (by omega),List.drop_eq_getElem_cons (by omega),List.drop_eq_getElem_cons (by omega),List.drop_eq_getElem_cons (by omega)]
   simp only[at8,List.getD,List.getElem?_eq_getElem (show 4*t<b.length by omega),List.getElem?_eq_getElem (show 4*t+1<b.length by omega),List.getElem?_eq_getElem (show 4*t+2<b.length by omega),List.getElem?_eq_getElem (show 4*t+3<b.length by omega),Option.getD_some]
   rfl
  have hs:n32 (z4N b (t+1)).reverse=wd b t::n32 (z4N b t).reverse:=by
   have:z8ha b t (z4N b t)=ldw b t 4:=by rw[z8ha,if_pos (by omega)]
   simp[z4N,n32,this,z9ke]
  rw[hd,z99d]
  show z99d n _ (wd b t::_)=_
  rw[←hs,z1md b hb n (t+1) (by omega)]
def kcN:List Nat:=n32 kc
def z4Ec (s:N8) (b:List UInt8):N8:=
 (fun r=>N8.mk (Nat.mod (Nat.add s.a r.a) M32) (Nat.mod (Nat.add s.b r.b) M32) (Nat.mod (Nat.add s.c r.c) M32) (Nat.mod (Nat.add s.d r.d) M32) (Nat.mod (Nat.add s.e r.e) M32) (Nat.mod (Nat.add s.f r.f) M32) (Nat.mod (Nat.add s.g r.g) M32) (Nat.mod (Nat.add s.h r.h) M32))
  (z9Kc kcN (z0ce 48 (z99d 16 b [])).reverse s)
theorem z5Gd (s:H8) (b:List UInt8) (hb:b.length=64):toN (z5ia s b)=z4Ec (toN s) b:=by
 have hw:=z1md b hb 16 0 rfl
 have e0:b.drop (4*0)=b:=rfl
 have e1:n32 (z4N b 0).reverse=[]:=rfl
 rw[e0,e1] at hw
 have hs:=z5Wc b 48 16 (by decide)
 have hr:=z0qd (z4N b 64) s (z6Ea b 64) 64 (by decide)
 rw[List.take_of_length_le (l:=z4N b 64) (by rw[z6Ea];decide),List.take_of_length_le (l:=kc) (i:=64) (Nat.le_refl _)] at hr
 have hrev:(n32 (z4N b 64).reverse).reverse=n32 (z4N b 64):=by simp[n32]
 unfold z4Ec
 rw[hw,hs,hrev,kcN,←hr]
 simp only[z5ia,H8.add,toN,N8.mk.injEq]
 exact⟨UInt32.toNat_add _ _,UInt32.toNat_add _ _,UInt32.toNat_add _ _,UInt32.toNat_add _ _,UInt32.toNat_add _ _,UInt32.toNat_add _ _,UInt32.toNat_add _ _,UInt32.toNat_add _ _⟩
def z5Hd:Nat→List UInt8→N8→N8
 |0,_,s=>s
 |k+1,m,s=>z5Hd k (m.drop 64) (z4Ec s (m.take 64))
theorem z9kc:∀(k:Nat) (m:List UInt8) (s:N8),z5Hd (k+1) m s=z4Ec (z5Hd k m s) ((m.drop (64*k)).take 64)
 |0,_,_=>rfl
 |k+1,m,s=>by
  rw[z5Hd,z9kc k,List.drop_drop,show 64+64*k=64*(k+1) by omega]
  rfl
theorem z5Wd (m:List UInt8) (s:H8):∀k,64*k≤m.length→toN (blk m s k)=z5Hd k m (toN s)
 |0,_=>rfl
 |k+1,h=>by rw[blk,z5Gd _ _ (by simp;omega),z5Wd m s k (by omega),z9kc]
def o4 (x:Nat):List UInt8:=[UInt8.ofNat (Nat.shiftRight x 24),UInt8.ofNat (Nat.shiftRight x 16),UInt8.ofNat (Nat.shiftRight x 8),UInt8.ofNat x]
def z4de (s:N8):List UInt8:=o4 s.a++(o4 s.b++(o4 s.c++(o4 s.d++(o4 s.e++(o4 s.f++(o4 s.g++o4 s.h))))))
theorem z61d (x:UInt32) (n:Nat):(z9q x n).toUInt8=UInt8.ofNat (Nat.shiftRight x.toNat n):=by
 apply UInt8.toNat_inj.1
 rw[UInt32.toNat_toUInt8,UInt8.toNat_ofNat']
 show(x.toBitVec>>>n).toNat% 256=(x.toNat>>>n)% 256
 rw[BitVec.toNat_ushiftRight]
 rfl
theorem z5ge (h:H8):z6ba h 32=z4de (toN h):=by
 simp only[z6ba,z4de,o4,toN,List.nil_append,List.append_assoc,List.cons_append,z61d]
 rfl
def z4Xd (n:Nat):List UInt8:=128::(z5j (Nat.mod (Nat.sub 119 (Nat.mod n 64)) 64)++[UInt8.ofNat (Nat.shiftRight (Nat.mul 8 n) 56),UInt8.ofNat (Nat.shiftRight (Nat.mul 8 n) 48),UInt8.ofNat (Nat.shiftRight (Nat.mul 8 n) 40),UInt8.ofNat (Nat.shiftRight (Nat.mul 8 n) 32),UInt8.ofNat (Nat.shiftRight (Nat.mul 8 n) 24),UInt8.ofNat (Nat.shiftRight (Nat.mul 8 n) 16),UInt8.ofNat (Nat.shiftRight (Nat.mul 8 n) 8),UInt8.ofNat (Nat.mul 8 n)])
theorem z2Ad {x:UInt64} {N:Nat} (hx:x.toNat=N) (n:Nat):(z5n x n).toUInt8=UInt8.ofNat (Nat.shiftRight N n):=by
 apply UInt8.toNat_inj.1
 rw[UInt64.toNat_toUInt8,UInt8.toNat_ofNat']
 show(x.toBitVec>>>n).toNat% 256=(N>>>n)% 256
 rw[BitVec.toNat_ushiftRight]
 subst hx
 rfl
theorem z7je {n:Nat} (h:n<1099511627776):z2la (UInt64.ofNat n)=z4Xd n:=by
 have h1:(UInt64.ofNat n).toNat=n:=by rw[UInt64.toNat_ofNat'];omega
 have h2:(8*UInt64.ofNat n).toNat=8*n:=by
  rw[UInt64.toNat_mul,h1]
  have:(8:UInt64).toNat=8:=rfl
  rw[this];omega
 simp only[z2la,h1,z4Xd,be8,List.nil_append,List.append_assoc,List.cons_append,z2Ad h2,z84b]
 rfl
def ivN:N8:=toN iv
def z7ce (b:List UInt8):List UInt8:=(fun m=>z4de (z5Hd (Nat.div m.length 64) m ivN)) (b++z4Xd b.length)
theorem z8Zd {b:List UInt8} (h:b.length<1099511000000):sha b=z7ce b:=by
 obtain⟨h1,h2,h3⟩:=z5Pb (b:=b) (by omega)
 rw[z1Oc h,z5ge,z5Wd _ _ _ (by omega)]
 show _=z4de (z5Hd ((b++z4Xd b.length).length/64) (b++z4Xd b.length) ivN)
 rw[←z7je (by omega)]
 rfl
end Go.Abs
end

section
namespace Go.Abs
end Go.Abs
end

section
namespace Go.Abs
set_option maxRecDepth 100000
theorem hp4 {i:Nat} (h:i<6):hdA (([.bp 4 0,.bp 4 1,.bp 4 2,.bp 4 3,.bp 4 4,.bp 4 5]:List z0a).drop i)= .bp 4 i:=by
 match i,h with
 |0,_|1,_|2,_|3,_|4,_|5,_=>rfl
end Go.Abs
end

section
namespace Go.Abs
set_option maxRecDepth 100000
end Go.Abs
end

section
namespace Go.Abs
set_option maxRecDepth 100000
end Go.Abs
end
