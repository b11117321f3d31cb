/- Lemmas: an abstract interpreter, and what the functions compute. -/
import Derived.Test.YtepddcbbkhdfiaaGreatDoorH
import Derived.Test.YtepddcbbkhdfiaaGreatDoorK
import Derived.Test.YtepddcbbkhdfiaaGreatDoorU
import Derived.Test.YtepddcbbkhdfiaaGreatDoorO
import Derived.Test.YtepddcbbkhdfiaaGreatDoorT
import Derived.Test.YtepddcbbkhdfiaaGreatDoorP
import Derived.Test.YtepddcbbkhdfiaaGreatDoorS
set_option linter.unusedSimpArgs false
set_option linter.unusedVariables false
set_option linter.unusedSectionVars false
section
namespace Go.Abs
set_option maxRecDepth 100000
end Go.Abs
end

section
namespace Go.Abs
set_option maxRecDepth 100000
end Go.Abs
end

section
namespace Go.Abs
set_option maxRecDepth 100000
theorem z0xd (E:Env):∀ds,z7mb.pre ds→ds.length=z6xa.n∧awp E z6xa.body (z6va z6xa.res (z7mb.post ds)) (z4H z6xa.wr ds):=by
 rintro _ ⟨nr,ne,l,h,rfl⟩
 rw[z1Oa h]
 have hs:=h.s
 have hll:l.len=l.size+l.ents.length:=rfl
 simp only[z4Ca,z5Aa,z5sa]
 simp(maxSteps:=1000000) (disch:=first|omega|simp;done|simp;omega) [z7G,z8pa,z7pa,z6xa]
 omega
structure inL (s:Int) (r:List (List UInt8)) (l:List z2n) (x:z2n):Prop where
 hs:inI s
 hr:z9n r
 hrl:r.length≤1000000
 hl:okL l
 hw:z4ma l≤1000000000
 hx:x.ok
 hv:wE x≤1000000000
theorem inL.one {s:Int} {r:List (List UInt8)} {l:List z2n} {x:z2n} (h:inL s r l x):okL [x]∧z4ma [x]≤1000000000:=⟨fun y hy=>by rw[List.mem_singleton.1 hy];exact h.hx,by have:=h.hv;simp[z4ma];omega⟩
theorem z6cd {x:z2n} (h:x.ok) (hf:z3Nc [x]=true):x.small:=(z66b (l:=[x]) (fun y hy=>by rw[List.mem_singleton.1 hy];exact h) hf).1 x (by simp)
end Go.Abs
end

section
namespace Go.Abs
set_option maxRecDepth 100000
theorem z3zd {l:z0n} (h:l.ok) {a:Int} (b:Int) (ha:z2e a):z2nc (z1Tb l a b).1:=by
 unfold z1Tb
 split
 ·exact⟨⟨by decide,by decide⟩,fun x hx=>absurd hx (by simp),by simp,fun x hx=>absurd hx (by simp),by simp⟩
 ·rename_i c
  have hn:=h.n
  have hs:=h.s
  have hll:l.len=l.size+l.ents.length:=rfl
  refine⟨ha,fun x hx=>h.e x (List.mem_of_mem_drop (List.mem_of_mem_take hx)),?_,fun y hy=> ?_,by simp⟩
  ·simp only[z9qc,List.length_take,List.length_drop];omega
  ·rcases List.mem_cons.1 hy with rfl|hy
   ·exact⟨z1Z h a,by rw[z4M h (by omega) (by omega)];have:=z9tb a.toNat;omega⟩
   ·rcases List.mem_cons.1 hy with rfl|hy
    ·exact⟨z4md h b,by have:=z55c h b;omega⟩
    ·cases hy
end Go.Abs
end

section
namespace Go.Abs
set_option maxRecDepth 100000
theorem z0Bc:z0n.ok ⟨0,[],[]⟩:=⟨z6z,z7K.symm,fun x hx=>absurd hx (by simp),by simp,by simp⟩
theorem z1fd {l:z0n} {x:z2n} (h:l.ok) (hx:x.small) (h1:l.ents.length<1000) (h2:l.len<62000):(z9Kb l x).1.ok:=by
 rcases z8Xc l x with⟨e,_,_,hle⟩|hle
 ·rw[hle];exact z0Bc
 ·rw[hle];exact z20d h hx h1 h2
theorem z9kd {l:z0n} (h:l.ok) (n:Int):(z7qc l n).1.ok:=by
 by_cases c:n<l.size∨(l.len:Int)<n
 ·rw[z7qc,if_pos c];exact z0Bc
 ·rw[z8ud (by omega) (by omega)];exact(z2Hd (by omega) (by omega)).ok h
theorem z0Cd {l:z0n} (h:l.ok) (n:Int):z9n (z8rb l n).1.2∧(z8rb l n).1.2.length≤1000000:=by
 have hs:=h.s
 have hll:l.len=l.size+l.ents.length:=rfl
 by_cases c:n<l.size∨(l.len:Int)<n
 ·rw[z8rb,if_pos c];exact⟨z6z,by simp⟩
 ·rw[z5Rb (by omega) (by omega)]
  exact⟨z1Z h n,by rw[z4M h (by omega) (by omega)];have:=z9tb n.toNat;omega⟩
def z2Sc:z1f:=⟨fun ds=>∃(s:Int) (r:List (List UInt8)) (l:List z2n) (x:z2n) (a b:Int),inL s r l x∧z2e a∧z2e b∧ds=[z65c s none none r l,.agg (z7va none none none x),i64 a,i64 b],fun _=>bo true⟩
set_option maxHeartbeats 16000000 in
theorem z6hd (E:Env) (h391:E.G 391=z6fd) (h389:E.G 389=z22b) (h390:E.G 390=z3xc) (h353:E.G 353=z5Gc) (h375:E.G 375=z7mb) (h359:E.G 359=z4Nc) (h360:E.G 360=z5Nc) (h355:E.G 355=z0Tb) (h349:E.G 349=z7mb) (h348:E.G 348=z34b) (h357:E.G 357=z2Nc) (h377:E.G 377=z3sc) (h60:E.G 60=z3qb) (h209:E.G 209=z56c) (h384:E.G 384=z93b) (h378:E.G 378=z2Nc) (h379:E.G 379=z34b) (h380:E.G 380=z5Gc) (h381:E.G 381=z5Nc) (h385:E.G 385=z4Nc) (h386:E.G 386=z0Tb):∀ds,z2Sc.pre ds→ds.length=z8qa.n∧awp E z8qa.body (z6va z8qa.res (z2Sc.post ds)) (z4H z8qa.wr ds):=by
 rintro _ ⟨s,r,l,x,a,b,h,ha,hb,rfl⟩
 show _∧awp E _ (z6va _ (bo true)) _
 have hxl:=z9Nb h.hx
 have fp:z22b.pre [.sl .plain none l.length (z6ra l)]=True:=z6Ac (nl:=none) h.hl h.hw
 have fq:z22b.post [.sl .plain none l.length (z6ra l)]=bo (z3Nc l):=z9Wb (nl:=none) h.hl
 have e1:z6ra [x]=z7va none none none x:=z8Wb x
 have gp:z22b.pre [.sl .plain (some false) 1 (z7va none none none x)]=True:=by rw[←e1];exact z6Ac (nl:=some false) h.one.1 h.one.2
 have gq:z22b.post [.sl .plain (some false) 1 (z7va none none none x)]=bo (z3Nc [x]):=by rw[←e1];exact z9Wb (nl:=some false) h.one.1
 have htk:List.take 30 (z7va none none none x)=z7va none none none x:=List.take_of_length_le (by omega)
 have sp:splice [i64 0,i64 0,i64 0,i64 0,i64 0,i64 0,i64 0,i64 0,i64 0,i64 0,st [],.sl .plain none 0 [],u8 0,u8 0,u8 0,u8 0,u8 0,u8 0,u8 0,u8 0,u8 0,u8 0,u8 0,u8 0,u8 0,u8 0,u8 0,u8 0,.sl .plain none 0 [],.sl .plain none 0 []] 0 (z7va none none none x)=z7va none none none x:=z2Ic rfl hxl
 have s0:z6fd.pre []=True:=eq_true rfl
 have s1:z6fd.post []=bo true:=rfl
 unfold z65c z5Aa z5sa
 cases b1:z3Nc l with
 |false=>
  simp(maxSteps:=1000000) (disch:=first|omega|simp;done|simp;omega) [z7G,z8pa,z7pa,z8qa,kT,kF,dT,dF,h389,fp,fq,b1,h391,s0,s1,hxl]
  skip
 |true=>
  obtain⟨hsm,hln⟩:=z66b h.hl b1
  cases b2:z3Nc [x] with
  |false=>
   simp(maxSteps:=1000000) (disch:=first|omega|simp;done|simp;omega) [z7G,z8pa,z7pa,z8qa,kT,kF,dT,dF,h389,fp,fq,gp,gq,b1,b2,hxl,htk,sp,h391,s0,s1]
   skip
  |true=>
   have hxs:=z6cd h.hx b2
   have hraw:z3Qd s r l:=⟨h.hs,h.hr,h.hrl,hsm,hln⟩
   have vp:=z5cd hraw
   have vq:=z3pc hraw
   unfold z65c z5Aa z5sa at vp vq
   cases b3:z7vc s r.length l with
   |false=>
    simp(maxSteps:=1000000) (disch:=first|omega|simp;done|simp;omega) [z7G,z8pa,z7pa,z8qa,kT,kF,dT,dF,h389,h390,fp,fq,gp,gq,vp,vq,b1,b2,b3,hxl,htk,sp,h391,s0,s1]
    skip
   |true=>
    obtain⟨hs0,hL,hs6⟩:=z4Kd hraw b3
    obtain⟨S,rfl⟩:∃S:Nat,s=S:=⟨s.toNat,by omega⟩
    rw[Int.toNat_natCast] at hL
    simp(maxSteps:=1000000) (disch:=first|omega|simp;done|simp;omega) [z7G,z8pa,z7pa,z8qa,kT,kF,dT,dF,h389,h390,fp,fq,gp,gq,vp,vq,b1,b2,b3,hxl,htk,sp]
    have hll:(⟨S,r,l⟩:z0n).len=S+l.length:=rfl
    have ap:=z9Fd hL (show l.length<1000 by omega) (by rw[hll];omega) hxs
    have aq:=z1fc hL hxs
    have aok:=z1fd hL hxs (show l.length<1000 by omega) (by rw[hll];omega)
    have pp:=z3Kd hL ha hb
    have pq:=z5cc a b hL
    have pok:=z3zd hL b ha
    have xp:=z0xc hL hb
    have xq:=z5Gb b hL
    have x16:=z4md hL b
    have xl:=z55c hL b
    have kp:=z2sb hL ha
    have kq:=z9Xa a hL
    obtain⟨k16,kl⟩:=z0Cd hL a
    have tp:=z7Bd hL hb
    have tq:=z79b b hL
    have tok:=z9kd hL b
    have zp:=z3fb (nr:=none) (ne:=none) hL
    have zq:=z1Oa (nr:=none) (ne:=none) hL
    have rp:=z7bd hL
    have rq:=z0Zb hL
    have hR:=z4Sd hL
    have eqd:=z23a hR hR
    have g1:=z4ad (np:=z7Eb (z1Tb ⟨S,r,l⟩ a b).2) (np':=z7Eb (z1Tb ⟨S,r,l⟩ a b).2) pok pok
    have g2:=z7lc (np:=z7Eb (z1Tb ⟨S,r,l⟩ a b).2) (np':=z7Eb (z1Tb ⟨S,r,l⟩ a b).2) pok pok
    rw[z20c] at g2
    have v1:=z1Ac (nl:=none) (nl':=none) x16 x16 (by omega)
    have v2:=z6jc (nl:=none) (nl':=none) x16 x16
    have w1:=z6lc aok aok
    have w2:=z1Nb aok aok
    have w3:=z6lc tok tok
    have w4:=z1Nb tok tok
    rw[z82c] at w2 w4
    have u1:=z7Gc (n:=(z8rb ⟨S,r,l⟩ a).1.1) (m:=(z8rb ⟨S,r,l⟩ a).1.1) (nl:=none) (nl':=none) k16 k16 kl kl rfl rfl rfl rfl
    have u2:=z7Zb (n:=(z8rb ⟨S,r,l⟩ a).1.1) (m:=(z8rb ⟨S,r,l⟩ a).1.1) (M:= .plain) (M':= .plain) (nl:=none) (nl':=none) k16 k16 rfl rfl rfl rfl
    simp only[decide_true,Bool.and_self] at v2 eqd u2
    simp only[z4Ca,z5Aa,z5sa,z54b,pkA] at ap aq pp pq xp xq kp kq tp tq zp zq rp rq g1 g2 v1 v2 w1 w2 w3 w4 u1 u2
    generalize(z9Kb ⟨S,r,l⟩ x).1=L1 at*
    generalize(z9Kb ⟨S,r,l⟩ x).2=c1 at*
    generalize(z1Tb ⟨S,r,l⟩ a b).1=L2 at*
    generalize(z1Tb ⟨S,r,l⟩ a b).2=c2 at*
    generalize(z2S ⟨S,r,l⟩ b).1=L3 at*
    generalize(z2S ⟨S,r,l⟩ b).2=c3 at*
    generalize(z8rb ⟨S,r,l⟩ a).1=L4 at*
    generalize(z8rb ⟨S,r,l⟩ a).2=c4 at*
    generalize(z7qc ⟨S,r,l⟩ b).1=L5 at*
    generalize(z7qc ⟨S,r,l⟩ b).2=c5 at*
    generalize z86c ⟨S,r,l⟩=R at*
    generalize(⟨S,r,l⟩:z0n).len=N at*
    simp(maxSteps:=1000000) (disch:=first|omega|simp;done|simp;omega) [z7G,z8pa,z7pa,z0Ga,kT,kF,dT,dF,h357,ap,aq,h378,h360,pp,pq,h381,h353,xp,xq,h380,h384,w1,w2,h377,g1,g2,h60,v1,v2,hxl,htk,z4wa,z2wa]
    simp only[z9Fa]
    refine z0Ma fun B hB=> ?_
    simp(maxSteps:=1000000) (disch:=first|omega|simp;done|simp;omega) [z7G,z8pa,z7pa,h348,kp,kq,z4wa,z2wa]
    rw[hB];clear hB
    refine z0Ma fun B hB=> ?_
    simp(maxSteps:=1000000) (disch:=first|omega|simp;done|simp;omega) [z7G,z8pa,z7pa,h379,kp,kq,z4wa,z2wa]
    rw[hB];clear hB
    refine z0Ma fun B hB=> ?_
    simp(maxSteps:=1000000) (disch:=first|omega|simp;done|simp;omega) [z7G,z8pa,z7pa,h359,tp,tq,z4wa,z2wa]
    rw[hB];clear hB
    refine z0Ma fun B hB=> ?_
    simp(maxSteps:=1000000) (disch:=first|omega|simp;done|simp;omega) [z7G,z8pa,z7pa,h385,tp,tq,z4wa,z2wa]
    rw[hB];clear hB
    simp(maxSteps:=20000000) (disch:=first|omega|simp;done|simp;omega) [z7G,z8pa,z7pa,h391,s0,s1,h209,u1,u2,h384,w3,w4,h349,zp,zq,h375,h355,rp,rq,h386,eqd,hR]
end Go.Abs
end
