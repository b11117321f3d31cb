/- Lemmas: an abstract interpreter, and what the functions compute. -/
import Derived.Test.YtepddcbbkhdfiaaGreatDoorI
import Derived.Test.YtepddcbbkhdfiaaGreatDoorH
import Derived.Test.YtepddcbbkhdfiaaGreatDoorG
set_option linter.unusedSimpArgs false
set_option linter.unusedVariables false
set_option linter.unusedSectionVars false
section
namespace Go.Abs
def Cmd.small (c:Cmd):Prop:=c.ok∧c.data.length≤100000000∧c.list.length≤100000000
def bls (ps:List (Option Bool×List UInt8)):List z2a:=ps.map fun p=> .sl (.own 1) p.1 p.2.length (bys p.2)
def z1Kc (ps:List (Option Bool×List UInt8)):Nat:=(ps.map fun p=>p.2.length).sum
def z5Lc (l:List z2a):List UInt8:=l.flatMap fun d=>gBs (gCs d)
def mdA (b:Bool):z0ka:=if b then .own 1 else .plain
def mls (ps:List (Bool×Option Bool×List UInt8)):List z2a:=ps.map fun p=> .sl (mdA p.1) p.2.1 p.2.2.length (bys p.2.2)
def z1y:z5a:=⟨fun ds=>∃(nl:Option Bool) (ps:List (Bool×Option Bool×List UInt8)),z1Kc (ps.map (·.2))≤10000000000∧ps.length≤10000000000∧ds=[.sl .plain nl ps.length (mls ps)],fun ds=> .sl (.own 1) none (z5Lc (gCs (nth ds 0))).length (bys (z5Lc (gCs (nth ds 0))))⟩
def z7ob:z5a:=⟨fun ds=>∃n:Nat,n≤10000000000∧ds=[.sl .plain (some true) 0 [],i64 n],fun _=> .sl (.own 1) none 0 []⟩
def z3rb:z5a:=⟨fun ds=>∃(c:Cmd) (nl:Option Bool),c.small∧ds=[.agg (z0W c nl)],fun ds=> .sl (.own 1) none (z7kb (z6Ub (gCs (nth ds 0)))).length (bys (z7kb (z6Ub (gCs (nth ds 0)))))⟩
def z8Ua (c d:Cmd):Bool:=c.kind==d.kind&&c.key==d.key&&c.other==d.other&&c.type==d.type&&c.uses==d.uses&&c.life==d.life&&c.data==d.data&&c.list==d.list
def z8aa:z5a:=⟨fun ds=>∃(c d:Cmd) (nl nl':Option Bool),c.small∧d.small∧ds=[.agg (z0W c nl),.agg (z0W d nl')],fun ds=>bo (z8Ua (z6Ub (gCs (nth ds 0))) (z6Ub (gCs (nth ds 1))))⟩
/-! ### The reader -/
def z8ae (l:List Int) (d:List UInt8) (ls:List Int):Cmd:=⟨atI l 0,atI l 1,atI l 2,atI l 3,atI l 4,atI l 5,d,ls⟩
def setN (c:Cmd) (l:List Int):Cmd:=z8ae (l++(six c).drop l.length) c.data c.list
theorem z4sc {c:Cmd} {nl:Option Bool} (h:c.small):z3rb.pre [.agg (z0W c nl)]=True:=eq_true ⟨c,nl,h,rfl⟩
@[simp] theorem z5ib (c:Cmd) (nl:Option Bool):z3rb.post [.agg (z0W c nl)]= .sl (.own 1) none (z7kb c).length (bys (z7kb c)):=by simp[z3rb]
theorem z6Za {c d:Cmd} {nl nl':Option Bool} (h:c.small) (h':d.small):z8aa.pre [.agg (z0W c nl),.agg (z0W d nl')]=True:=eq_true ⟨c,d,nl,nl',h,h',rfl⟩
@[simp] theorem z9ea (c d:Cmd) (nl nl':Option Bool):z8aa.post [.agg (z0W c nl),.agg (z0W d nl')]=bo (z8Ua c d):=by simp[z8aa]
@[simp] theorem z5Td (ps:List (Option Bool×List UInt8)):z5Lc (bls ps)=ps.flatMap (·.2):=by
 induction ps with
 |nil=>rfl
 |cons p ps ih=>simp only[z5Lc,bls,List.map_cons,List.flatMap_cons] at ih⊢;rw[ih];simp
theorem z00c (ps:List (Option Bool×List UInt8)):bls ps=mls (ps.map fun p=>(true,p)):=by
 rw[bls,mls,List.map_map];rfl
theorem z9pc (ps:List (Bool×Option Bool×List UInt8)):z5Lc (mls ps)=ps.flatMap (·.2.2):=by
 induction ps with
 |nil=>rfl
 |cons p ps ih=>
  simp only[z5Lc,mls,List.map_cons,List.flatMap_cons] at ih⊢
  rw[ih]
  simp[gCs]
theorem z9za {nl:Option Bool} {n:Nat} {ps:List (Bool×Option Bool×List UInt8)} (h:z1Kc (ps.map (·.2))≤10000000000) (h':ps.length≤10000000000) (hn:n=ps.length):z1y.pre [.sl .plain nl n (mls ps)]=True:=eq_true ⟨nl,ps,h,h',by rw[hn]⟩
theorem z4oa (nl:Option Bool) (n:Nat) (ps:List (Bool×Option Bool×List UInt8)):z1y.post [.sl .plain nl n (mls ps)]= .sl (.own 1) none (ps.flatMap (·.2.2)).length (bys (ps.flatMap (·.2.2))):=by
 show z2a.sl (.own 1) none (z5Lc (mls ps)).length (bys (z5Lc (mls ps)))=_
 rw[z9pc]
theorem z3Sb {nl:Option Bool} {n:Nat} {ps:List (Option Bool×List UInt8)} (h:z1Kc ps≤10000000000) (h':ps.length≤10000000000) (hn:n=ps.length):z1y.pre [.sl .plain nl n (bls ps)]=True:=by
 rw[z00c]
 refine z9za ?_ (by simpa using h') (by simpa using hn)
 rw[List.map_map,show((fun x:Bool×Option Bool×List UInt8=>x.2)∘fun p:Option Bool×List UInt8=>(true,p))=id from rfl,List.map_id]
 exact h
@[simp] theorem z9Ab (nl:Option Bool) (n:Nat) (ps:List (Option Bool×List UInt8)):z1y.post [.sl .plain nl n (bls ps)]= .sl (.own 1) none (ps.flatMap (·.2)).length (bys (ps.flatMap (·.2))):=by simp[z1y]
theorem z4kc {n:Int} (h0:0≤n) (h:n≤10000000000):z7ob.pre [.sl .plain (some true) 0 [],i64 n]=True:=eq_true ⟨n.toNat,by omega,by rw[show((n.toNat:Nat):Int)=n by omega]⟩
@[simp] theorem z0tb (ds:List z2a):z7ob.post ds= .sl (.own 1) none 0 []:=rfl
theorem z8Da (bs:List Nat) (bx:Nat→Option (List z2a)) (f:Nat) (x y:List z2a):z9A bs bx (.fn f x y)=((∀v∈x,z1u bs bx v)∧(∀v∈y,z1u bs bx v)):=rfl
end Go.Abs
end

section
namespace Go.Abs
set_option maxRecDepth 100000
def z3Z:z3a:=
 Yu [1,3,18,19] [YM 22 3,Ym 23 5,Yk 24 12 23,Yo 25 (.append 1 1 false none none 22 (.s 24)),YM 3 25]
def z9X:z3a:=
 Yq (.block 1 (Yr [1,3,5,18,19] [Yo 21 (.idxA none 1 6 (.s 18) (.s 19)),Ym 5 21] z3Z)) (Yu [1,3,18,19] [YB 26 .add 19 1,Ym 19 26])
def z6C:z3a:=
 Yq (Yd 20 (Yy [1,3,18,19]) (YY [1,3])) z9X
def z7C:z3a:=
 Yr [1,3,18,19,20] [YB 20 .lss 19 6] z6C
def z4Y:z3a:=
 .block 0 (.loop z7C)
def z2Z:z3a:=
 YR [2] [.norm [1]] [YM 27 3,Yf 28 6 1,Yl 29 1 28,Yk 30 7 29,Yf 31 7 1,Yl 32 1 31,Yk 33 39 32,Yo 34 (.buildSl 1 3 [.sl .plain none 0 [],.sl .plain none 0 [],.sl .plain none 0 []] [(0,1,.s 27),(1,1,.s 30),(2,1,.s 33)]),Yk 35 129 34,YM 2 35] .ret
def z9Y:z3a:=
 Yq (YR [1,3,18,19] [.norm [1]] [Yf 6 0 1,Yl 7 1 6,Yf 8 1 1,Yl 9 1 8,Yf 10 2 1,Yl 11 1 10,Yf 12 3 1,Yl 13 1 12,Yf 14 4 1,Yl 15 1 14,Yf 16 5 1,Yl 17 1 16,Yo 18 (.build [i64 0,i64 0,i64 0,i64 0,i64 0,i64 0] [(0,1,.s 7),(1,1,.s 9),(2,1,.s 11),(3,1,.s 13),(4,1,.s 15),(5,1,.s 17)]),Yc 19 0] z4Y) z2Z
def z21:z3a:=
 Yr [1,3] [Yo 3 (.mv true (.c (.sl (.own 1) none 0 [])))] z9Y
def z2n:z6e:=
 {n:=1,wr:=[],res:=[.t 2],body:=YR [1] [.norm [1]] [Yx 1 1 8 0,Yo 2 (.mv true (.c (.sl (.own 1) none 0 [])))] z21}
def z5h:z3a:=
 YR [4] [.norm [2,3]] [Yf 11 0 2,Yl 12 2 11,Yf 13 0 3,Yl 14 3 13,Yb 15 .eql 12 14,Ym 16 15,YG 16 (Yf 17 1 2),YG 16 (Yl 18 2 17),YG 16 (Yf 19 1 3),YG 16 (Yl 20 3 19),YG 16 (Yb 21 .eql 18 20),Yp 22 16 21,Ym 23 22,YG 23 (Yf 24 2 2),YG 23 (Yl 25 2 24),YG 23 (Yf 26 2 3),YG 23 (Yl 27 3 26),YG 23 (Yb 28 .eql 25 27),Yp 29 23 28,Ym 30 29,YG 30 (Yf 31 3 2),YG 30 (Yl 32 2 31),YG 30 (Yf 33 3 3),YG 30 (Yl 34 3 33),YG 30 (Yb 35 .eql 32 34),Yp 36 30 35,Ym 37 36,YG 37 (Yf 38 4 2),YG 37 (Yl 39 2 38),YG 37 (Yf 40 4 3),YG 37 (Yl 41 3 40),YG 37 (Yb 42 .eql 39 41),Yp 43 37 42,Ym 44 43,YG 44 (Yf 45 5 2),YG 44 (Yl 46 2 45),YG 44 (Yf 47 5 3),YG 44 (Yl 48 3 47),YG 44 (Yb 49 .eql 46 48),Yp 50 44 49,Ym 51 50,YG 51 (Yf 52 6 2),YG 51 (Yl 53 2 52),YG 51 (Yf 54 6 3),YG 51 (Yl 55 3 54),YG 51 (Yb 56 .eql 53 55),Yp 57 51 56,Ym 58 57,YG 58 (Ym 59 5),YG 58 (Ym 60 6),YG 58 (YK 61 132 59 60),Yp 62 58 61,Ym 4 62] .ret
def z9da:z3a:=
 YR [2,3,5,6] [.norm [2,3]] [Yf 7 7 2,Yl 8 2 7,Yf 9 7 3,Yl 10 3 9,YM 5 8,YM 6 10] z5h
def z4r:z6e:=
 {n:=2,wr:=[],res:=[.t 4],body:=YR [2,3] [.norm [2,3]] [Yx 2 2 8 0,Yx 3 3 8 1,Yw 4 false] z9da}
def z03:z3a:=
 Yd 20 (Yu [3,9,10,11] [Yo 21 .unsup,YO .unsup]) (Yy [3,9,10,11])
def z15:z3a:=
 Yr [3,9,10,11,20] [Ym 19 3,YB 20 .lss 19 0] z03
def z85:z3a:=
 Yr [3,9,10,11] [Ym 15 3,YM 16 5,Yn 17 16,Yb 18 .add 15 17,Ym 3 18] z15
def z82:z3a:=
 Yq (.block 1 (Yr [3,5,9,10,11] [Yi 13 1 9 11,Yj 14 13,YM 5 14] z85)) (Yu [3,9,10,11] [YB 22 .add 11 1,Ym 11 22])
def z3I:z3a:=
 Yq (Yd 12 (Yy [3,9,10,11]) (YY [3])) z82
def z3H:z3a:=
 Yr [3,9,10,11,12] [Yb 12 .lss 11 10] z3I
def z16:z3a:=
 .block 0 (.loop z3H)
def z8Y:z3a:=
 Yu [6,25,26,27] [YM 31 6,YM 32 8,Yo 33 (.append 1 1 false none none 31 (.s 32)),YM 6 33]
def z1Y:z3a:=
 Yq (.block 3 (Yr [6,8,25,26,27] [Yi 29 1 25 27,Yj 30 29,YM 8 30] z8Y)) (Yu [6,25,26,27] [YB 34 .add 27 1,Ym 27 34])
def z4C:z3a:=
 Yq (Yd 28 (Yy [6,25,26,27]) (.ghost (.keep [6]) (.exit 2))) z1Y
def z6G:z3a:=
 Yr [6,25,26,27,28] [Yb 28 .lss 27 26] z4C
def z61:z3a:=
 .block 2 (.loop z6G)
def z7Z:z3a:=
 Yr [2] [YM 35 6,YM 2 35] .ret
def z64:z3a:=
 Yq (Yr [6,25,26,27] [Ym 25 0,Yn 26 25,Yc 27 0] z61) z7Z
def z72:z3a:=
 Yr [6] [Ym 23 3,Yo 24 (.call 139 [.c (.lit (.slice none 0 0)),.s 23] []),YM 6 24] z64
def z24:z3a:=
 Yq (Yr [3,9,10,11] [Ym 9 0,Yn 10 9,Yc 11 0] z16) z72
def z05:z3a:=
 Yr [3] [Yc 3 0] z24
def z0p:z6e:=
 {n:=1,wr:=[],res:=[.t 2],body:=Yr [] [Yo 2 (.mv true (.c (.sl (.own 1) none 0 [])))] z05}
def z2N:z3a:=
 Yd 10 (Yr [4] [Yw 4 false] .ret) (Yy [])
def z7K:z3a:=
 Yd 24 (Yr [4] [Yw 4 false] .ret) (Yy [12,13])
def z8M:z3a:=
 Yr [12,13,24] [Ym 16 0,Ym 17 5,Yi 18 1 16 17,Yj 19 18,Ym 20 1,Ym 21 5,Yi 22 1 20 21,Yj 23 22,Yb 24 .neq 19 23] z7K
def z7L:z3a:=
 Yq (.block 1 (Yr [5,12,13] [Ym 15 13,Ym 5 15] z8M)) (Yu [12,13] [YB 25 .add 13 1,Ym 13 25])
def z5z:z3a:=
 Yq (Yd 14 (Yy [12,13]) (YY [])) z7L
def z9z:z3a:=
 Yr [12,13,14] [Yb 14 .lss 13 12] z5z
def z5da:z3a:=
 .block 0 (.loop z9z)
def z6fa:z3a:=
 Yr [4] [Yw 4 true] .ret
def z3ca:z3a:=
 Yq (Yr [12,13] [Ym 11 0,Yn 12 11,Yc 13 0] z5da) z6fa
def z9K:z3a:=
 Yq (Yr [10] [Ym 6 0,Yn 7 6,Ym 8 1,Yn 9 8,Yb 10 .neq 7 9] z2N) z3ca
def z1o:z6e:=
 {n:=2,wr:=[],res:=[.t 4],body:=Yr [] [Yw 4 false] z9K}
end Go.Abs
end

section
namespace Go.Abs
end Go.Abs
end

section
namespace Go.Abs
end Go.Abs
end

section
namespace Go.Abs
@[simp] theorem gC9 (a b c d e f:Int) (s:List UInt8) (nl:Option Bool) (n:Nat) (l:List Int) (x:z2a):z6Ub [i64 a,i64 b,i64 c,i64 d,i64 e,i64 f,st s,.sl .plain nl n (z9p l),x]=⟨a,b,c,d,e,f,s,l⟩:=by simp[z6Ub,nth]
end Go.Abs
end

section
namespace Go.Abs
end Go.Abs
end

section
namespace Go.Abs
def dig (c:UInt8):UInt8:=at8 [48,49,50,51,52,53,54,55,56,57,97,98,99,100,101,102] c.toNat
def z97d (pre:List z2a→Prop):z5a:=⟨pre,fun _=>bo true⟩
def z6zc:z5a:=z97d fun ds=>ds=[]
@[simp] theorem z6ce:z6zc.pre []=True:=eq_true rfl
@[simp] theorem z5Rd (ds:List z2a):z6zc.post ds=bo true:=rfl
end Go.Abs
end

section
namespace Go.Abs
theorem z3cc {n:Nat} (h0:n≠0) (h1:n<256):z6Ma n=[UInt8.ofNat n]:=by rw[z3ia h0,Nat.div_eq_of_lt h1,z50]
theorem dig1:z6Ma 1=[1]:=z3cc (by decide) (by decide)
theorem dig2:z6Ma 2=[2]:=z3cc (by decide) (by decide)
theorem enc0:z4J 0=[128]:=by simp[z4J,mag,flp,z50]
theorem enc1:z4J 1=[129,1]:=by simp[z4J,mag,flp,dig1]
theorem enc2:z4J 2=[129,2]:=by simp[z4J,mag,flp,dig2]
def exD:List UInt8:=[1,2,0,0,0,0,0,0,0,0,0,0,0,0,0,0]
theorem x1:z3Pa [130,1,0,9]=(256,3,0):=by decide
theorem x2:z3Pa [130,1]=(0,0,5):=by decide
theorem x3:z3Pa [129,0]=(0,0,6):=by decide
theorem x4:z4de [129,2,97,98,7]=([97,98],4,0):=by decide
theorem x5:z0ed z3Pa 1 [129,2,129,1,127]=([1,-1],5,0):=by decide
theorem x6:z5Id (z9zd 1 exD)=(exD,18,0):=by rw[z9zd,show((1:Nat):Int)=1 from rfl,enc1];decide
theorem x7:z0ed z4de 1 [129,2,128,129,1,97,5]=([[],[97]],6,0):=by decide
theorem x8:z6zd [[],[97]]=[129,2,128,129,1,97]:=by simp[z6zd,z5N,enc0,enc1,enc2]
theorem f1 (x:UInt8):[u8 x]=bys [x]:=rfl
theorem f2 (x:UInt8) (l:List UInt8):u8 x::bys l=bys (x::l):=rfl
theorem f3 (x:List UInt8):[st x]=sts [x]:=rfl
theorem f4 (x:List UInt8) (l:List (List UInt8)):st x::sts l=sts (x::l):=rfl
theorem f5 (x:Int):[i64 x]=z9p [x]:=rfl
theorem f6 (x:Int) (l:List Int):i64 x::z9p l=z9p (x::l):=rfl
end Go.Abs
end

section
namespace Go.Abs
end Go.Abs
end

section
namespace Go.Abs
end Go.Abs
end

section
namespace Go.Abs
end Go.Abs
end

section
namespace Go.Abs
def gok (t:Bool) (p:Prop):Prop:=t=true→p
@[simp] theorem gok_f (p:Prop):gok false p=True:=by simp[gok]
@[simp] theorem gok_t (p:Prop):gok true p=p:=by simp[gok]
@[simp] theorem gok_T (t:Bool):gok t True=True:=by simp[gok]
@[simp high] theorem z2Ed (E:Env) (d s:Nat) (w:Bool) (op:AOp) (o e:List (Nat×z2a)) (b:List (Nat×Option (List z2a))):
  okA E ⟨some d,some (s,w),op⟩ ⟨o,e,b⟩=((∀x∈d::op.wrS,lk o x=none)∧okG (ASt.get ⟨o,e,b⟩ s)∧gok (z6gb (ASt.get ⟨o,e,b⟩ s) w) (okp E (ASt.get ⟨o,e,b⟩) (ASt.getB ⟨o,e,b⟩) op)):=rfl
end Go.Abs
end

section
namespace Go.Abs
def rt (d:List UInt8) (nl nb:Option Bool) (ls:List Int) (b:List UInt8):List z2a:=[st d,.sl .plain nl ls.length (z9p ls),.sl .plain nb b.length (bys b)]
end Go.Abs
end

section
namespace Go.Abs
@[simp] theorem z8ee (E:Env) (a b:z3a) (Q:z7h→ASt→Prop) (s:ASt):awp E (.alt a b) Q s=(awp E a Q s∨awp E b Q s):=rfl
@[simp] theorem z6xd (f:Nat) (x y:List z2a):z5e (.fn f x y)=false:=rfl
def d1 (b:List UInt8):List Int×List UInt8×Nat:=z9de 6 b
def c1 (b:List UInt8):Cmd:=setN z4S (d1 b).1
def b1 (b:List UInt8):List UInt8:=(d1 b).2.1
def d2 (b:List UInt8):List UInt8×Nat×Nat:=z4de (b1 b)
def c2 (b:List UInt8):Cmd:={c1 b with data:=(d2 b).1}
def b2 (b:List UInt8):List UInt8:=aft (b1 b) (d2 b).2.1 (d2 b).2.2
def d3 (b:List UInt8):List Int×Nat×Nat:=z0ed z3Pa 1 (b2 b)
def c3 (b:List UInt8):Cmd:={c2 b with list:=(d3 b).1}
def b3 (b:List UInt8):List UInt8:=aft (b2 b) (d3 b).2.1 (d3 b).2.2
def dst (b:List UInt8):Nat→Cmd×List UInt8
 |0=>(z4S,b)
 |1=>(c1 b,b1 b)
 |2=>(c2 b,b2 b)
 |_=>(c3 b,b3 b)
end Go.Abs
end

section
namespace Go.Abs
end Go.Abs
end
