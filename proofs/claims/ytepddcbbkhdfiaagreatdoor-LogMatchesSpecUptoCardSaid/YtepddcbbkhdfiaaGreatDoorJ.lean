/- Lemmas: an abstract interpreter, and what the functions compute. -/
import Derived.Test.YtepddcbbkhdfiaaGreatDoorI
import Derived.Test.YtepddcbbkhdfiaaGreatDoorG
import Derived.Test.YtepddcbbkhdfiaaGreatDoorH
set_option linter.unusedSimpArgs false
set_option linter.unusedVariables false
set_option linter.unusedSectionVars false
section
namespace Go.Abs
@[simp] theorem gC9 (a b c d e f:Int) (s:List UInt8) (nl:Option Bool) (n:Nat) (l:List Int) (x:z0a):z3Jc [i64 a,i64 b,i64 c,i64 d,i64 e,i64 f,st s,.sl .plain nl n (z1Aa l),x]=⟨a,b,c,d,e,f,s,l⟩:=by simp[z3Jc,nth]
end Go.Abs
end

section
namespace Go.Abs
end Go.Abs
end

section
namespace Go.Abs
def dig (c:UInt8):UInt8:=at8 [48,49,50,51,52,53,54,55,56,57,97,98,99,100,101,102] c.toNat
def z5me (pre:List z0a→Prop):z1f:=⟨pre,fun _=>bo true⟩
def z6fd:z1f:=z5me fun ds=>ds=[]
@[simp] theorem z2ke:z6fd.pre []=True:=eq_true rfl
@[simp] theorem z5de (ds:List z0a):z6fd.post ds=bo true:=rfl
end Go.Abs
end

section
namespace Go.Abs
theorem z4Qc {n:Nat} (h0:n≠0) (h1:n<256):z2k n=[UInt8.ofNat n]:=by rw[z6h h0,Nat.div_eq_of_lt h1,z0g]
theorem dig1:z2k 1=[1]:=z4Qc (by decide) (by decide)
theorem dig2:z2k 2=[2]:=z4Qc (by decide) (by decide)
theorem enc0:z4r 0=[128]:=by simp[z4r,mag,flp,z0g]
theorem enc1:z4r 1=[129,1]:=by simp[z4r,mag,flp,dig1]
theorem enc2:z4r 2=[129,2]:=by simp[z4r,mag,flp,dig2]
def exD:List UInt8:=[1,2,0,0,0,0,0,0,0,0,0,0,0,0,0,0]
theorem x1:z6m [130,1,0,9]=(256,3,0):=by decide
theorem x2:z6m [130,1]=(0,0,5):=by decide
theorem x3:z6m [129,0]=(0,0,6):=by decide
theorem x4:z6fe [129,2,97,98,7]=([97,98],4,0):=by decide
theorem x5:z0oa z6m 1 [129,2,129,1,127]=([1,-1],5,0):=by decide
theorem x6:z39d (z22d 1 exD)=(exD,18,0):=by rw[z22d,show((1:Nat):Int)=1 from rfl,enc1];decide
theorem x7:z0oa z6fe 1 [129,2,128,129,1,97,5]=([[],[97]],6,0):=by decide
theorem x8:z8Wd [[],[97]]=[129,2,128,129,1,97]:=by simp[z8Wd,z2X,enc0,enc1,enc2]
theorem f1 (x:UInt8):[u8 x]=bys [x]:=rfl
theorem f2 (x:UInt8) (l:List UInt8):u8 x::bys l=bys (x::l):=rfl
theorem f3 (x:List UInt8):[st x]=sts [x]:=rfl
theorem f4 (x:List UInt8) (l:List (List UInt8)):st x::sts l=sts (x::l):=rfl
theorem f5 (x:Int):[i64 x]=z1Aa [x]:=rfl
theorem f6 (x:Int) (l:List Int):i64 x::z1Aa l=z1Aa (x::l):=rfl
end Go.Abs
end

section
namespace Go.Abs
end Go.Abs
end

section
namespace Go.Abs
end Go.Abs
end

section
namespace Go.Abs
end Go.Abs
end

section
namespace Go.Abs
def gok (t:Bool) (p:Prop):Prop:=t=true→p
@[simp] theorem gok_f (p:Prop):gok false p=True:=by simp[gok]
@[simp] theorem gok_t (p:Prop):gok true p=p:=by simp[gok]
@[simp] theorem gok_T (t:Bool):gok t True=True:=by simp[gok]
@[simp high] theorem z53 (E:Env) (d s:Nat) (w:Bool) (op:AOp) (o e:List (Nat×z0a)) (b:List (Nat×Option (List z0a))):
  okA E ⟨some d,some (s,w),op⟩ ⟨o,e,b⟩=((∀x∈d::op.wrS,lk o x=none)∧okG (ASt.get ⟨o,e,b⟩ s)∧gok (z4G (ASt.get ⟨o,e,b⟩ s) w) (okp E (ASt.get ⟨o,e,b⟩) (ASt.getB ⟨o,e,b⟩) op)):=rfl
end Go.Abs
end

section
namespace Go.Abs
def rt (d:List UInt8) (nl nb:Option Bool) (ls:List Int) (b:List UInt8):List z0a:=[st d,.sl .plain nl ls.length (z1Aa ls),.sl .plain nb b.length (bys b)]
end Go.Abs
end

section
namespace Go.Abs
@[simp] theorem z2ja (E:Env) (a b:z1c) (Q:z5c→ASt→Prop) (s:ASt):awp E (.alt a b) Q s=(awp E a Q s∨awp E b Q s):=rfl
@[simp] theorem z3X (f:Nat) (x y:List z0a):z5b (.fn f x y)=false:=rfl
def d1 (b:List UInt8):List Int×List UInt8×Nat:=z0ka 6 b
def c1 (b:List UInt8):Cmd:=setN z9u (d1 b).1
def b1 (b:List UInt8):List UInt8:=(d1 b).2.1
def d2 (b:List UInt8):List UInt8×Nat×Nat:=z6fe (b1 b)
def c2 (b:List UInt8):Cmd:={c1 b with data:=(d2 b).1}
def b2 (b:List UInt8):List UInt8:=aft (b1 b) (d2 b).2.1 (d2 b).2.2
def d3 (b:List UInt8):List Int×Nat×Nat:=z0oa z6m 1 (b2 b)
def c3 (b:List UInt8):Cmd:={c2 b with list:=(d3 b).1}
def b3 (b:List UInt8):List UInt8:=aft (b2 b) (d3 b).2.1 (d3 b).2.2
def dst (b:List UInt8):Nat→Cmd×List UInt8
 |0=>(z9u,b)
 |1=>(c1 b,b1 b)
 |2=>(c2 b,b2 b)
 |_=>(c3 b,b3 b)
end Go.Abs
end

section
namespace Go.Abs
end Go.Abs
end

section
namespace Go.Abs
end Go.Abs
end

section
namespace Go.Abs
@[simp] theorem z3de (c:Cmd) (nl:Option Bool):(z49a c nl).length=8:=rfl
@[simp] theorem z4Vd (c:Cmd) (nl:Option Bool):(∀x∈z49a c nl,z8a x)↔True:=by simp[z49a]
@[simp] theorem z1be (c:Cmd) (nl:Option Bool):(∀x∈z49a c nl,z5b x=false)↔True:=by simp[z49a]
@[simp] theorem z1Rd (c:Cmd) (nl:Option Bool):(z49a c nl).take 8=z49a c nl:=rfl
@[simp] theorem z2Sd (c:Cmd) (nl:Option Bool):z8b (z49a c nl)=true:=by simp[z49a,z8b]
end Go.Abs
end

section
namespace Go.Abs
def msgD (d:List UInt8):List Nat:=d.flatMap fun b=>[b.toNat/16,b.toNat% 16]
def sumD (d:List UInt8):Nat:=(d.map fun b=>(15-b.toNat/16)+(15-b.toNat% 16)).sum
def chkD (s:Nat):List Nat:=[s/256,s/16% 16,s% 16]
def dgt (d:List UInt8):List Nat:=msgD d++chkD (sumD d)
def z4na (kb:List UInt8) (f:Nat):Nat→List UInt8→List UInt8
 |0,v=>v
 |n+1,v=>z0f 4 [kb,z4r ((f+n:Nat):Int),z4na kb f n v]
theorem z0A {v:List UInt8} (h:v.length=16) (kb:List UInt8) (f:Nat):∀n,(z4na kb f n v).length=16
 |0=>h
 |_+1=>z0e _ _
def z5M (c f t:Int):Prop:=0≤c∧c≤34∧0≤f∧f≤15∧0≤t∧t≤15
instance (c f t:Int):Decidable (z5M c f t):=by unfold z5M;exact inferInstance
def adv (c f t:Int) (v:List UInt8):List UInt8:=if z5M c f t then z4na (z4r c) f.toNat (t.toNat-f.toNat) v else z5j 16
theorem z1s {v:List UInt8} (h:v.length=16) (c f t:Int):(adv c f t v).length=16:=by
 unfold adv
 split
 ·exact z0A h _ _ _
 ·rfl
def z9Y:List UInt8:=[99,104,97,105,110]
def z5ca (seed:List UInt8) (k:Nat):List UInt8:=(drv seed z9Y [z4r (k:Int)]).take 16
theorem z7k (s:List UInt8) (k:Nat):(z5ca s k).length=16:=by simp[z5ca]

/-! ### One value of each chain -/
def z4Q (f:Nat→List UInt8):Nat→List UInt8
 |0=>[]
 |n+1=>z4Q f n++f n
theorem z0l {f:Nat→List UInt8}:∀n,(∀k,k<n→(f k).length=16)→(z4Q f n).length=16*n
 |0,_=>rfl
 |n+1,h=>by
  rw[z4Q,List.length_append,z0l n fun k hk=>h k (by omega),h n (by omega)];omega
def dgI (d:List UInt8):List Int:=(dgt d).map Int.ofNat
def pubV (s:List UInt8) (k:Nat):List UInt8:=adv k 0 15 (z5ca s k)
def sigV (s:List UInt8) (hs:List Int) (k:Nat):List UInt8:=adv k 0 (atI hs k) (z5ca s k)
def endV (hs:List Int) (s:List UInt8) (k:Nat):List UInt8:=adv k (atI hs k) 15 ((s.drop (16*k)).take 16)
def pubS (s:List UInt8):List UInt8:=z4Q (pubV s) 35
def sigS (s d:List UInt8):List UInt8:=z4Q (sigV s (dgI d)) 35
def endS (d s:List UInt8):List UInt8:=z4Q (endV (dgI d) s) 35
theorem z3p (s:List UInt8) (k:Nat):(pubV s k).length=16:=z1s (z7k _ _) _ _ _
theorem z1q (s:List UInt8) (hs:List Int) (k:Nat):(sigV s hs k).length=16:=z1s (z7k _ _) _ _ _
theorem z3B (s:List UInt8):(pubS s).length=560:=z0l 35 fun k _=>z3p s k
theorem z5y (s d:List UInt8):(sigS s d).length=560:=z0l 35 fun k _=>z1q s _ k
def recD (d s:List UInt8):List UInt8:=if s.length=560 then z0f 5 [endS d s] else z5j 16
def pubD (s:List UInt8):List UInt8:=z0f 5 [pubS s]
theorem z2x (d s:List UInt8):(recD d s).length=16:=by
 unfold recD
 split
 ·exact z0e _ _
 ·rfl
theorem z2B (s:List UInt8):(pubD s).length=16:=z0e _ _
end Go.Abs
end

section
namespace Go.Abs
attribute [simp] z3p z1q z3B z5y z2x z2B z7k
theorem z7ta {l:List UInt8} (h:l.length=16):l.take 16=l:=by rw[←h,List.take_length]
theorem tot1 (a:List UInt8):z9rb [a]=a.length+9:=by simp[z9rb]
@[simp] theorem z57 (tag:Int) (x:List UInt8) (nl:Option Bool):ofC.post [i64 tag,.sl .plain nl 1 [st x]]= .agg (bys (z0f tag [x])):=z7I tag nl 1 [x]
@[simp] theorem z85 (tag:Int) (x:List UInt8) (nl:Option Bool):z8Rb.post [i64 tag,.sl .plain nl 1 [st x]]= .agg (bys (z0f tag [x])):=z1C tag nl 1 [x]
end Go.Abs
end

section
namespace Go.Abs
theorem z7Ud {c:Cmd} (h:c.ok):∀x∈six c,z2e x:=by
 obtain⟨h1,h2,h3,h4,h5,h6,_⟩:=h
 intro x hx
 simp only[six,List.mem_cons,List.not_mem_nil,or_false] at hx
 rcases hx with rfl|rfl|rfl|rfl|rfl|rfl<;>assumption
theorem z59b {c:Cmd} (h:c.small):(z38b c).length≤2000000000:=by
 have h6:=z2ta (z7Ud h.1)
 have hl:=z2ta (l:=c.list) h.1.2.2.2.2.2.2
 have e1:=z7Aa (n:=(c.data.length:Int)) (by have:=h.2.1;constructor<;>omega)
 have e2:=z7Aa (n:=(c.list.length:Int)) (by have:=h.2.2;constructor<;>omega)
 have:=h.2.1
 have:=h.2.2
 simp only[six,List.length_cons,List.length_nil] at h6
 simp only[z38b,z2X,z6y,List.length_append]
 simp only[six]
 omega
set_option maxHeartbeats 8000000 in
theorem z6ad (E:Env) (h132:E.G 132=z9Ta):∀ds,z4jb.pre ds→ds.length=z0Fa.n∧awp E z0Fa.body (z6va z0Fa.res (z4jb.post ds)) (z4H z0Fa.wr ds):=by
 rintro _ ⟨c,d,nl,nl',hc,hd,rfl⟩
 rw[z8bb]
 obtain⟨k1,k2,k3,k4,k5,k6,dt,ls⟩:=c
 obtain⟨j1,j2,j3,j4,j5,j6,dt',ls'⟩:=d
 have hll:=hc.2.2
 simp only at hll
 simp(maxSteps:=1000000) (disch:=first|omega|simp;done|simp;omega) [z7G,z8pa,z7pa,z0Fa,z6qb,z49a]
 refine z1g fun Q0 hQ0=> ?_
 simp only[z7Hb] at hQ0
 cases c1:k1==j1
 ·rw[c1] at hQ0
  simp(maxSteps:=1000000) (disch:=first|omega|simp;done|simp;omega) [z7G,z8pa,z7pa,z5va,c1,hQ0]
 rw[c1] at hQ0
 cases c2:k2==j2
 ·rw[c2] at hQ0
  simp(maxSteps:=1000000) (disch:=first|omega|simp;done|simp;omega) [z7G,z8pa,z7pa,z5va,c1,c2,hQ0]
 rw[c2] at hQ0
 cases c3:k3==j3
 ·rw[c3] at hQ0
  simp(maxSteps:=1000000) (disch:=first|omega|simp;done|simp;omega) [z7G,z8pa,z7pa,z5va,c1,c2,c3,hQ0]
 rw[c3] at hQ0
 cases c4:k4==j4
 ·rw[c4] at hQ0
  simp(maxSteps:=1000000) (disch:=first|omega|simp;done|simp;omega) [z7G,z8pa,z7pa,z5va,c1,c2,c3,c4,hQ0]
 rw[c4] at hQ0
 cases c5:k5==j5
 ·rw[c5] at hQ0
  simp(maxSteps:=1000000) (disch:=first|omega|simp;done|simp;omega) [z7G,z8pa,z7pa,z5va,c1,c2,c3,c4,c5,hQ0]
 rw[c5] at hQ0
 cases c6:k6==j6
 ·rw[c6] at hQ0
  simp(maxSteps:=1000000) (disch:=first|omega|simp;done|simp;omega) [z7G,z8pa,z7pa,z5va,c1,c2,c3,c4,c5,c6,hQ0]
 rw[c6] at hQ0
 cases c7:dt==dt'
 ·rw[c7] at hQ0
  have d7:(dt=dt')=False:=by simpa using c7
  simp(maxSteps:=1000000) (disch:=first|omega|simp;done|simp;omega) [z7G,z8pa,z7pa,z5va,c1,c2,c3,c4,c5,c6,d7,hQ0]
 rw[c7] at hQ0
 have d7:(dt=dt')=True:=by simpa using c7
 simp(maxSteps:=1000000) (disch:=first|omega|simp;done|simp;omega) [z7G,z8pa,z7pa,z5va,c1,c2,c3,c4,c5,c6,d7,h132,z02b,hQ0]
end Go.Abs
end

section
namespace Go.Abs
theorem z5Pc (c d:Cmd):z7Hb c d=true↔c=d:=by
 obtain⟨k1,k2,k3,k4,k5,k6,dt,ls⟩:=c
 obtain⟨j1,j2,j3,j4,j5,j6,dt',ls'⟩:=d
 simp[z7Hb,and_assoc]
end Go.Abs
end

section
namespace Go.Abs
structure z3P where
 id:Int
 ty:Int
 uses:Int
 beg:Int
 fin:Int
 ver:Int
 par:Int
 raw:Bool
 dig:List UInt8
def z5Ma (m:z3P):List z0a:=[i64 m.id,i64 m.ty,i64 m.uses,i64 m.beg,i64 m.fin,i64 m.ver,i64 m.par,bo m.raw]++bys m.dig
structure z2n where
 time:Int
 kind:Int
 req:Int
 mode:Int
 cmd:Cmd
 dig:List UInt8
 made:List z3P
 gone:List Int
def z0Ca (l:List z3P):List z0a:=l.flatMap z5Ma
def z7va (nc nm ng:Option Bool) (x:z2n):List z0a:=[i64 x.time,i64 x.kind,i64 x.req,i64 x.mode]++z49a x.cmd nc++bys x.dig++[.sl .plain nm x.made.length (z0Ca x.made),.sl .plain ng x.gone.length (z1Aa x.gone)]
def z3P.ok (m:z3P):Prop:=z2e m.id∧z2e m.ty∧z2e m.uses∧z2e m.beg∧z2e m.fin∧z2e m.ver∧z2e m.par∧m.dig.length=16
def z2n.ok (x:z2n):Prop:=z2e x.time∧z2e x.kind∧z2e x.req∧z2e x.mode∧x.cmd.ok∧x.dig.length=16∧(∀m∈x.made,m.ok)∧∀n∈x.gone,z2e n
def z4ae (b:Bool):Int:=if b then 1 else 0
def z6ha (m:z3P):List Int:=[m.id,m.ty,m.uses,m.beg,m.fin,m.ver,m.par,z4ae m.raw]
def z8Jb (m:z3P):List UInt8:=z6y (z6ha m)++m.dig
def z9Db (x:z2n):List UInt8:=z6y [x.time,x.kind,x.req,x.mode]++(z2X (z38b x.cmd)++(x.dig++(z4r x.made.length++(x.made.flatMap z8Jb++z6y x.gone))))
theorem z9ec {m:z3P} (h:m.ok):∀x∈z6ha m,z2e x:=by
 obtain⟨h1,h2,h3,h4,h5,h6,h7,_⟩:=h
 intro x hx
 simp only[z6ha,List.mem_cons,List.not_mem_nil,or_false] at hx
 rcases hx with rfl|rfl|rfl|rfl|rfl|rfl|rfl|rfl
 all_goals first|assumption|skip
 unfold z4ae
 split<;>exact⟨by omega,by omega⟩
def z2n.small (x:z2n):Prop:=x.ok∧x.cmd.small∧x.made.length≤1000000∧x.gone.length≤1000000
end Go.Abs
end
