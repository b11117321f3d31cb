/- Lemmas: an abstract interpreter, and what the functions compute. -/
import Derived.Test.YtepddcbbkhdfiaaGreatDoorV
import Derived.Test.YtepddcbbkhdfiaaGreatDoorU
import Derived.Test.YtepddcbbkhdfiaaGreatDoorQ
import Derived.Test.YtepddcbbkhdfiaaGreatDoorI
import Derived.Test.YtepddcbbkhdfiaaGreatDoorK
import Derived.Test.YtepddcbbkhdfiaaGreatDoorP
import Derived.Test.YtepddcbbkhdfiaaGreatDoorS
set_option linter.unusedSimpArgs false
set_option linter.unusedVariables false
set_option linter.unusedSectionVars false
section
namespace Go.Abs
set_option maxRecDepth 100000
end Go.Abs
end

section
namespace Go.Abs
set_option maxRecDepth 100000
end Go.Abs
end

section
namespace Go.Abs
set_option maxRecDepth 100000
end Go.Abs
end

section
namespace Go.Abs
set_option maxRecDepth 100000
end Go.Abs
end

section
namespace Go.Abs
set_option maxRecDepth 100000
theorem z0pd (E:Env):∀ds,z1Fb.pre ds→ds.length=z4va.n∧awp E z4va.body (z4xa z4va.res (z1Fb.post ds)) (z4H z4va.wr ds):=by
 rintro _ ⟨nr,ne,l,h,rfl⟩
 rw[z5Pa h]
 have hs:=h.s
 have hll:l.len=l.size+l.ents.length:=rfl
 simp only[z8Ja,z3Ea,z5ta]
 simp(maxSteps:=1000000) (disch:=first|omega|(simp;done)|(simp;omega)) [z6G,z8pa,z7pa,z4va]
 omega
structure inL (s:Int) (r:List (List UInt8)) (l:List z2n) (x:z2n):Prop where
 hs:inI s
 hr:z9n r
 hrl:r.length≤1000000
 hl:okL l
 hw:z4ma l≤1000000000
 hx:x.ok
 hv:wE x≤1000000000
theorem inL.one {s:Int} {r:List (List UInt8)} {l:List z2n} {x:z2n} (h:inL s r l x):okL [x]∧z4ma [x]≤1000000000:=⟨fun y hy=>by rw[List.mem_singleton.1 hy];exact h.hx,by have:=h.hv;simp[z4ma];omega⟩
theorem z15c {x:z2n} (h:x.ok) (hf:z8Gc [x]=true):x.small:=(z8Zb (l:=[x]) (fun y hy=>by rw[List.mem_singleton.1 hy];exact h) hf).1 x (by simp)
end Go.Abs
end

section
namespace Go.Abs
set_option maxRecDepth 100000
theorem z6Nc {l:z0n} (h:l.ok) {a:Int} (b:Int) (ha:z2e a):z0gc (z3qb l a b).1:=by
 unfold z3qb
 split
 ·exact⟨⟨by decide,by decide⟩,fun x hx=>absurd hx (by simp),by simp,fun x hx=>absurd hx (by simp),by simp⟩
 ·rename_i c
  have hn:=h.n
  have hs:=h.s
  have hll:l.len=l.size+l.ents.length:=rfl
  refine⟨ha,fun x hx=>h.e x (List.mem_of_mem_drop (List.mem_of_mem_take hx)),?_,fun y hy=> ?_,by simp⟩
  ·simp only[z0Hc,List.length_take,List.length_drop];omega
  ·rcases List.mem_cons.1 hy with rfl|hy
   ·exact⟨z1Z h a,by rw[z4M h (by omega) (by omega)];have:=z2ec a.toNat;omega⟩
   ·rcases List.mem_cons.1 hy with rfl|hy
    ·exact⟨z3ed h b,by have:=z4Yc h b;omega⟩
    ·cases hy
def z0Mc:z1f:=⟨fun ds=>∃(s:Int) (r:List (List UInt8)) (l:List z2n) (x:z2n) (n a b:Int),inL s r l x∧z2e n∧z2e a∧z2e b∧ds=[z5Yc s none none r l,i64 n,i64 a,i64 b,.agg (z0va none none none x)],fun _=>bo true⟩
set_option maxHeartbeats 16000000 in
theorem z6uc (E:Env) (h391:E.G 391=z9Gc) (h353:E.G 353=z0cd) (h360:E.G 360=z0id) (h355:E.G 355=z6cc) (h349:E.G 349=z1Fb) (h377:E.G 377=z6ac) (h60:E.G 60=z79a) {l s:z0n} {n a b:Int} (hl:l.ok) (hrel:z2w l s n) (ha:z2e a) (hb:z2e b) (L0 X0:z0a) (X Y Z:List z0a):
  awp E z7sa (z4xa [.t 10] (bo true)) ⟨[(0,L0),(1,i64 n),(2,i64 a),(3,i64 b),(4,X0)],[(5,.bp 5 0),(11,.bp 11 0)],
   [(5,some [i64 l.size,.sl .plain none l.roots.length (bys (dgs l.roots)),.sl .plain none l.ents.length (z0sa l.ents)]),(9,some X),(11,some [i64 n,.sl .plain none s.roots.length (bys (dgs s.roots)),.sl .plain none s.ents.length (z0sa s.ents)]),(13,some Y),(15,some Z)]⟩:=by
 have hs:=hrel.ok hl
 have hss:=hrel.hs
 have zp:=z6kb (nr:=none) (ne:=none) hl
 have zq:=z5Pa (nr:=none) (ne:=none) hl
 have zp2:=z6kb (nr:=none) (ne:=none) hs
 have zq2:=z5Pa (nr:=none) (ne:=none) hs
 have rp:=z4vc hl
 have rq:=z5Sb hl
 have rp2:=z4vc hs
 have rq2:=z5Sb hs
 have p1:=z4Wc hl ha hb
 have q1:=z05b a b hl
 have p2:=z4Wc hs ha hb
 have q2:=z05b a b hs
 have x1:=z5qc hl hb
 have y1:=z6Nb b hl
 have x2:=z5qc hs hb
 have y2:=z6Nb b hs
 have hR:=z8Jd hl
 have eqd:=z37a hR hR
 have k1:=z6Nc hl b ha
 have k2:=z6Nc hs b ha
 have m1:=z3ed hl b
 have ml:=z4Yc hl b
 have g1:=z92c (np:=z1Rb (z3qb l a b).2) (np':=z1Rb (z3qb l a b).2) k1 k1
 have g2:=z4ec (np:=z1Rb (z3qb l a b).2) (np':=z1Rb (z3qb l a b).2) k1 k1
 rw[z2Tc] at g2
 have v1:=z4tc (nl:=none) (nl':=none) m1 m1 (by omega)
 have v2:=z2cc (nl:=none) (nl':=none) m1 m1
 simp only[decide_true] at v2 eqd
 have s0:z9Gc.pre []=True:=eq_true rfl
 have s1:z9Gc.post []=bo true:=rfl
 have n1:((l.len:Int) !=(l.len:Int))=false:=by simp
 rw[hrel.len] at zq2
 rw[hrel.rot] at rq2
 simp only[z8Ja,z3Ea,z5ta,z98b,hss] at zp zq zp2 zq2 rp rq rp2 rq2 p1 q1 p2 q2 x1 y1 x2 y2 g1 g2 v1 v2
 by_cases c1:a<n
 ·have f1:=hrel.pie_no b c1
  rw[f1] at q2
  by_cases c2:b<n
  ·have f2:=hrel.ext_no c2
   rw[f2] at y2
   generalize(z3qb l a b).1=P1 at*
   generalize(z3qb l a b).2=e1 at*
   generalize(z2S l b).1=P2 at*
   generalize(z2S l b).2=e2 at*
   generalize z3kc l=R at*
   simp(maxSteps:=1000000) (disch:=first|omega|(simp;done)|(simp;omega)) [z6G,z8pa,z7pa,z7sa,z9ta,z0ua,kT,kF,dT,dF,h349,zp,zq,zp2,zq2,n1,h355,rp,rq,rp2,rq2,eqd,hR,h360,p1,q1,p2,q2,h353,x1,y1,x2,y2,c1,c2,h391,s0,s1,z8za,z7za,h377,g1,g2,h60,v1,v2]
  ·have f2:=hrel.ext (m:=b) (by omega)
   rw[f2] at y2
   generalize(z3qb l a b).1=P1 at*
   generalize(z3qb l a b).2=e1 at*
   generalize(z2S l b).1=P2 at*
   generalize(z2S l b).2=e2 at*
   generalize z3kc l=R at*
   simp(maxSteps:=1000000) (disch:=first|omega|(simp;done)|(simp;omega)) [z6G,z8pa,z7pa,z7sa,z9ta,z0ua,kT,kF,dT,dF,h349,zp,zq,zp2,zq2,n1,h355,rp,rq,rp2,rq2,eqd,hR,h360,p1,q1,p2,q2,h353,x1,y1,x2,y2,c1,c2,h391,s0,s1,z8za,z7za,h377,g1,g2,h60,v1,v2]
 ·have f1:=hrel.pie (a:=a) b (by omega)
  rw[f1] at q2
  by_cases c2:b<n
  ·have f2:=hrel.ext_no c2
   rw[f2] at y2
   generalize(z3qb l a b).1=P1 at*
   generalize(z3qb l a b).2=e1 at*
   generalize(z2S l b).1=P2 at*
   generalize(z2S l b).2=e2 at*
   generalize z3kc l=R at*
   simp(maxSteps:=1000000) (disch:=first|omega|(simp;done)|(simp;omega)) [z6G,z8pa,z7pa,z7sa,z9ta,z0ua,kT,kF,dT,dF,h349,zp,zq,zp2,zq2,n1,h355,rp,rq,rp2,rq2,eqd,hR,h360,p1,q1,p2,q2,h353,x1,y1,x2,y2,c1,c2,h391,s0,s1,z8za,z7za,h377,g1,g2,h60,v1,v2]
  ·have f2:=hrel.ext (m:=b) (by omega)
   rw[f2] at y2
   generalize(z3qb l a b).1=P1 at*
   generalize(z3qb l a b).2=e1 at*
   generalize(z2S l b).1=P2 at*
   generalize(z2S l b).2=e2 at*
   generalize z3kc l=R at*
   simp(maxSteps:=1000000) (disch:=first|omega|(simp;done)|(simp;omega)) [z6G,z8pa,z7pa,z7sa,z9ta,z0ua,kT,kF,dT,dF,h349,zp,zq,zp2,zq2,n1,h355,rp,rq,rp2,rq2,eqd,hR,h360,p1,q1,p2,q2,h353,x1,y1,x2,y2,c1,c2,h391,s0,s1,z8za,z7za,h377,g1,g2,h60,v1,v2]
set_option maxHeartbeats 16000000 in
theorem z41c (E:Env) (h391:E.G 391=z9Gc) (h389:E.G 389=z9Vb) (h390:E.G 390=z7qc) (h353:E.G 353=z0cd) (h375:E.G 375=z1Fb) (h359:E.G 359=z8xd) (h360:E.G 360=z0id) (h355:E.G 355=z6cc) (h349:E.G 349=z1Fb) (h377:E.G 377=z6ac) (h60:E.G 60=z79a) (h357:E.G 357=z0qd):∀ds,z0Mc.pre ds→ds.length=z9qa.n∧awp E z9qa.body (z4xa z9qa.res (z0Mc.post ds)) (z4H z9qa.wr ds):=by
 rintro _ ⟨s,r,l,x,n,a,b,h,hn,ha,hb,rfl⟩
 show _∧awp E _ (z4xa _ (bo true)) _
 have hxl:=z8Hb h.hx
 have fp:z9Vb.pre [.sl .plain none l.length (z0sa l)]=True:=z8tc (nl:=none) h.hl h.hw
 have fq:z9Vb.post [.sl .plain none l.length (z0sa l)]=bo (z8Gc l):=z1Qb (nl:=none) h.hl
 have e1:z0sa [x]=z0va none none none x:=z49b x
 have gp:z9Vb.pre [.sl .plain (some false) 1 (z0va none none none x)]=True:=by rw[←e1];exact z8tc (nl:=some false) h.one.1 h.one.2
 have gq:z9Vb.post [.sl .plain (some false) 1 (z0va none none none x)]=bo (z8Gc [x]):=by rw[←e1];exact z1Qb (nl:=some false) h.one.1
 have htk:List.take 30 (z0va none none none x)=z0va none none none x:=List.take_of_length_le (by omega)
 have sp:splice [i64 0,i64 0,i64 0,i64 0,i64 0,i64 0,i64 0,i64 0,i64 0,i64 0,st [],.sl .plain none 0 [],u8 0,u8 0,u8 0,u8 0,u8 0,u8 0,u8 0,u8 0,u8 0,u8 0,u8 0,u8 0,u8 0,u8 0,u8 0,u8 0,.sl .plain none 0 [],.sl .plain none 0 []] 0 (z0va none none none x)=z0va none none none x:=z5Ic rfl hxl
 have s0:z9Gc.pre []=True:=eq_true rfl
 have s1:z9Gc.post []=bo true:=rfl
 unfold z5Yc z3Ea z5ta
 cases b1:z8Gc l with
 |false=>
  simp(maxSteps:=1000000) (disch:=first|omega|(simp;done)|(simp;omega)) [z6G,z8pa,z7pa,z9qa,kT,kF,dT,dF,h389,fp,fq,b1,h391,s0,s1,hxl]
  skip
 |true=>
  obtain⟨hsm,hln⟩:=z8Zb h.hl b1
  cases b2:z8Gc [x] with
  |false=>
   simp(maxSteps:=1000000) (disch:=first|omega|(simp;done)|(simp;omega)) [z6G,z8pa,z7pa,z9qa,kT,kF,dT,dF,h389,fp,fq,gp,gq,b1,b2,hxl,htk,sp,h391,s0,s1]
   skip
  |true=>
   have hxs:=z15c h.hx b2
   have hraw:z8Hd s r l:=⟨h.hs,h.hr,h.hrl,hsm,hln⟩
   have vp:=z05c hraw
   have vq:=z5ic hraw
   unfold z5Yc z3Ea z5ta at vp vq
   cases b3:z3pc s r.length l with
   |false=>
    simp(maxSteps:=1000000) (disch:=first|omega|(simp;done)|(simp;omega)) [z6G,z8pa,z7pa,z9qa,kT,kF,dT,dF,h389,h390,fp,fq,gp,gq,vp,vq,b1,b2,b3,hxl,htk,sp,h391,s0,s1]
    skip
   |true=>
    obtain⟨hs0,hL,hs6⟩:=z6Bd hraw b3
    obtain⟨S,rfl⟩:∃S:Nat,s=S:=⟨s.toNat,by omega⟩
    rw[Int.toNat_natCast] at hL
    simp(maxSteps:=1000000) (disch:=first|omega|(simp;done)|(simp;omega)) [z6G,z8pa,z7pa,z9qa,kT,kF,dT,dF,h389,h390,fp,fq,gp,gq,vp,vq,b1,b2,b3,hxl,htk,sp]
    obtain⟨N,hN⟩:∃N,N=S+l.length:=⟨_,rfl⟩
    have hll:(⟨S,r,l⟩:z0n).len=N:=hN.symm
    have hsz:N≤60200:=by omega
    have tp:=z7td hL hn
    have tq:=z9sc n hL
    have zp:=z6kb (nr:=none) (ne:=none) hL
    have zq:=z5Pa (nr:=none) (ne:=none) hL
    have e0:z0sa []=[]:=rfl
    by_cases c:n<S∨(N:Int)<n
    ·have hE:z7Gc ⟨S,r,l⟩ n=(⟨0,[],[]⟩,11):=by unfold z7Gc;rw[hll];exact if_pos c
     rw[hE] at tq
     simp only[z8Ja,z3Ea,z5ta,hll,z5Jb,e0,List.length_nil] at tp tq zp zq
     by_cases c1:n<S
     ·simp(maxSteps:=1000000) (disch:=first|omega|(simp;done)|(simp;omega)) [z6G,z8pa,z7pa,z8ra,kT,kF,dT,dF,h359,tp,tq,h391,s0,s1,c1,z9qa,z8za,z7za]
      skip
     ·have c2:(N:Int)<n:=by omega
      simp(maxSteps:=1000000) (disch:=first|omega|(simp;done)|(simp;omega)) [z6G,z8pa,z7pa,z8ra,kT,kF,dT,dF,h359,tp,tq,h391,s0,s1,c1,c2,h375,zp,zq,z9qa,z8za,z7za]
      skip
    ·have c1':((⟨S,r,l⟩:z0n).size:Int)≤n:=by show(S:Int)≤n;omega
     have c2':n≤((⟨S,r,l⟩:z0n).len:Int):=by rw[hll];omega
     have hrel:=z7yd c1' c2'
     rw[z0nd c1' c2'] at tq
     have hT:=hrel.ok hL
     have hTl:=hrel.len
     have hTs:=hrel.hs
     rw[hll] at hTl
     generalize z14d ⟨S,r,l⟩ n=T at*
     obtain⟨S2,r2,l2⟩:=T
     have hTl':S2+l2.length=N:=hTl
     have hTs':(S2:Int)=n:=hTs
     have zp2:=z6kb (nr:=none) (ne:=none) hT
     have zq2:=z5Pa (nr:=none) (ne:=none) hT
     have ap:=z0Tc hL (show l.length<1000 by omega) (by rw[hll];omega) hxs
     have aq:=z47b hL hxs
     have ap2:=z0Tc hT (show l2.length<1000 by omega) (by rw[hTl];omega) hxs
     have aq2:=z47b hT hxs
     have d1:decide ((S2:Int)=n)=true:=decide_eq_true hTs
     have n1:((S2:Int) !=n)=false:=by rw[hTs];simp
     have n2:((l2.length:Int) !=(N:Int)-n)=false:=by rw[show((l2.length:Nat):Int)=(N:Int)-n by omega];simp
     simp only[z8Ja,z3Ea,z5ta,hll,hTl,hTs] at tp tq zp zq ap aq ap2 aq2 zp2 zq2
     have r3:=fun(L0 X0:z0a) (X Y Z:List z0a)=>z6uc E h391 h353 h360 h355 h349 h377 h60 hL hrel ha hb L0 X0 X Y Z
     have r3':=fun(L0 X0:z0a) (X Y Z:List z0a)=>z6uc E h391 h353 h360 h355 h349 h377 h60 (z2Rd hL hxs (show l.length<1000 by omega) (by rw[hll];omega)) (hrel.con x) ha hb L0 X0 X Y Z
     simp only at r3 r3'
     rcases z9Tb ⟨S,r,l⟩ x with⟨e,he1,he2,hle⟩|hle
     ·rw[hle] at aq
      simp only[z5Jb,e0,List.length_nil] at aq
      have q0:((e:Int)==0)=false:=beq_false_of_ne (by omega)
      rcases z9Tb ⟨S2,r2,l2⟩ x with⟨e',he1',he2',hle'⟩|hle'
      ·rw[hle'] at aq2
       simp only[z5Jb,e0,List.length_nil] at aq2
       simp(maxSteps:=1000000) (disch:=first|omega|(simp;done)|(simp;omega)) [z6G,z8pa,z7pa,z8ra,z8ta,z7ta,kT,kF,dT,dF,h359,tp,tq,h375,zp,zq,n1,n2,h357,ap,aq,ap2,aq2,hxl,htk,q0,z8za,z7za]
       exact r3 _ _ _ _ _
      ·rw[hle'] at aq2
       simp(maxSteps:=1000000) (disch:=first|omega|(simp;done)|(simp;omega)) [z6G,z8pa,z7pa,z8ra,z8ta,z7ta,kT,kF,dT,dF,h359,tp,tq,h375,zp,zq,n1,n2,h357,ap,aq,ap2,aq2,hxl,htk,q0,z8za,z7za]
       exact r3 _ _ _ _ _
     ·rw[hle] at aq
      rcases z9Tb ⟨S2,r2,l2⟩ x with⟨e',he1',he2',hle'⟩|hle'
      ·rw[hle'] at aq2
       simp only[z5Jb,e0,List.length_nil] at aq2
       have q0:((e':Int)==0)=false:=beq_false_of_ne (by omega)
       simp(maxSteps:=1000000) (disch:=first|omega|(simp;done)|(simp;omega)) [z6G,z8pa,z7pa,z8ra,z8ta,z7ta,kT,kF,dT,dF,h359,tp,tq,h375,zp,zq,n1,n2,h357,ap,aq,ap2,aq2,hxl,htk,q0,z8za,z7za]
       exact r3 _ _ _ _ _
      ·rw[hle'] at aq2
       have hcs:((z9cd ⟨S2,r2,l2⟩ x).size:Int)=n:=hTs
       simp only[hcs] at aq2
       simp(maxSteps:=1000000) (disch:=first|omega|(simp;done)|(simp;omega)) [z6G,z8pa,z7pa,z8ra,z8ta,z7ta,kT,kF,dT,dF,h359,tp,tq,h375,zp,zq,n1,n2,h357,ap,aq,ap2,aq2,hxl,htk,z8za,z7za]
       exact r3' _ _ _ _ _
end Go.Abs
end
