/- Lemmas: an abstract interpreter, and what the functions compute. -/
import Derived.Test.YtepddcbbkhdfiaaGreatDoorI
import Derived.Test.YtepddcbbkhdfiaaGreatDoorH
import Derived.Test.YtepddcbbkhdfiaaGreatDoorG
set_option linter.unusedSimpArgs false
set_option linter.unusedVariables false
set_option linter.unusedSectionVars false
section
namespace Go.Abs
def Cmd.small (c:Cmd):Prop:=c.ok∧c.data.length≤100000000∧c.list.length≤100000000
def bls (ps:List (Option Bool×List UInt8)):List z0a:=ps.map fun p=> .sl (.own 1) p.1 p.2.length (bys p.2)
def z9ed (ps:List (Option Bool×List UInt8)):Nat:=(ps.map fun p=>p.2.length).sum
def z1gd (l:List z0a):List UInt8:=l.flatMap fun d=>gBs (gCs d)
def mdA (b:Bool):z4r:=if b then .own 1 else .plain
def mls (ps:List (Bool×Option Bool×List UInt8)):List z0a:=ps.map fun p=> .sl (mdA p.1) p.2.1 p.2.2.length (bys p.2.2)
def z3Ja:z1f:=⟨fun ds=>∃(nl:Option Bool) (ps:List (Bool×Option Bool×List UInt8)),z9ed (ps.map (·.2))≤10000000000∧ps.length≤10000000000∧ds=[.sl .plain nl ps.length (mls ps)],fun ds=> .sl (.own 1) none (z1gd (gCs (nth ds 0))).length (bys (z1gd (gCs (nth ds 0))))⟩
def z5dc:z1f:=⟨fun ds=>∃n:Nat,n≤10000000000∧ds=[.sl .plain (some true) 0 [],i64 n],fun _=> .sl (.own 1) none 0 []⟩
def z7ac:z1f:=⟨fun ds=>∃(c:Cmd) (nl:Option Bool),c.small∧ds=[.agg (z13a c nl)],fun ds=> .sl (.own 1) none (z3ic (z4Cc (gCs (nth ds 0)))).length (bys (z3ic (z4Cc (gCs (nth ds 0)))))⟩
def z9Bb (c d:Cmd):Bool:=c.kind==d.kind&&c.key==d.key&&c.other==d.other&&c.type==d.type&&c.uses==d.uses&&c.life==d.life&&c.data==d.data&&c.list==d.list
def z4ab:z1f:=⟨fun ds=>∃(c d:Cmd) (nl nl':Option Bool),c.small∧d.small∧ds=[.agg (z13a c nl),.agg (z13a d nl')],fun ds=>bo (z9Bb (z4Cc (gCs (nth ds 0))) (z4Cc (gCs (nth ds 1))))⟩
/-! ### The reader -/
def z7ia (l:List Int) (d:List UInt8) (ls:List Int):Cmd:=⟨atI l 0,atI l 1,atI l 2,atI l 3,atI l 4,atI l 5,d,ls⟩
def setN (c:Cmd) (l:List Int):Cmd:=z7ia (l++(six c).drop l.length) c.data c.list
theorem z8bd {c:Cmd} {nl:Option Bool} (h:c.small):z7ac.pre [.agg (z13a c nl)]=True:=eq_true ⟨c,nl,h,rfl⟩
@[simp] theorem z2ac (c:Cmd) (nl:Option Bool):z7ac.post [.agg (z13a c nl)]= .sl (.own 1) none (z3ic c).length (bys (z3ic c)):=by simp[z7ac]
theorem z8Cb {c d:Cmd} {nl nl':Option Bool} (h:c.small) (h':d.small):z4ab.pre [.agg (z13a c nl),.agg (z13a d nl')]=True:=eq_true ⟨c,d,nl,nl',h,h',rfl⟩
@[simp] theorem z53a (c d:Cmd) (nl nl':Option Bool):z4ab.post [.agg (z13a c nl),.agg (z13a d nl')]=bo (z9Bb c d):=by simp[z4ab]
@[simp] theorem z32d (ps:List (Option Bool×List UInt8)):z1gd (bls ps)=ps.flatMap (·.2):=by
 induction ps with
 |nil=>rfl
 |cons p ps ih=>simp only[z1gd,bls,List.map_cons,List.flatMap_cons] at ih⊢;rw[ih];simp
theorem z6ld (ps:List (Option Bool×List UInt8)):bls ps=mls (ps.map fun p=>(true,p)):=by
 rw[bls,mls,List.map_map];rfl
theorem z86c (ps:List (Bool×Option Bool×List UInt8)):z1gd (mls ps)=ps.flatMap (·.2.2):=by
 induction ps with
 |nil=>rfl
 |cons p ps ih=>
  simp only[z1gd,mls,List.map_cons,List.flatMap_cons] at ih⊢
  rw[ih]
  simp[gCs]
theorem z6yb {nl:Option Bool} {n:Nat} {ps:List (Bool×Option Bool×List UInt8)} (h:z9ed (ps.map (·.2))≤10000000000) (h':ps.length≤10000000000) (hn:n=ps.length):z3Ja.pre [.sl .plain nl n (mls ps)]=True:=eq_true ⟨nl,ps,h,h',by rw[hn]⟩
theorem z0rb (nl:Option Bool) (n:Nat) (ps:List (Bool×Option Bool×List UInt8)):z3Ja.post [.sl .plain nl n (mls ps)]= .sl (.own 1) none (ps.flatMap (·.2.2)).length (bys (ps.flatMap (·.2.2))):=by
 show z0a.sl (.own 1) none (z1gd (mls ps)).length (bys (z1gd (mls ps)))=_
 rw[z86c]
theorem z2Fc {nl:Option Bool} {n:Nat} {ps:List (Option Bool×List UInt8)} (h:z9ed ps≤10000000000) (h':ps.length≤10000000000) (hn:n=ps.length):z3Ja.pre [.sl .plain nl n (bls ps)]=True:=by
 rw[z6ld]
 refine z6yb ?_ (by simpa using h') (by simpa using hn)
 rw[List.map_map,show((fun x:Bool×Option Bool×List UInt8=>x.2)∘fun p:Option Bool×List UInt8=>(true,p))=id from rfl,List.map_id]
 exact h
@[simp] theorem z3oc (nl:Option Bool) (n:Nat) (ps:List (Option Bool×List UInt8)):z3Ja.post [.sl .plain nl n (bls ps)]= .sl (.own 1) none (ps.flatMap (·.2)).length (bys (ps.flatMap (·.2))):=by simp[z3Ja]
theorem z2dd {n:Int} (h0:0≤n) (h:n≤10000000000):z5dc.pre [.sl .plain (some true) 0 [],i64 n]=True:=eq_true ⟨n.toNat,by omega,by rw[show((n.toNat:Nat):Int)=n by omega]⟩
@[simp] theorem z9dc (ds:List z0a):z5dc.post ds= .sl (.own 1) none 0 []:=rfl
theorem z3Db (bs:List Nat) (bx:Nat→Option (List z0a)) (f:Nat) (x y:List z0a):z0d bs bx (.fn f x y)=((∀v∈x,z8e bs bx v)∧(∀v∈y,z8e bs bx v)):=rfl
end Go.Abs
end

section
namespace Go.Abs
set_option maxRecDepth 100000
def z45a:z1c:=
 Yu [1,3,18,19] [YM 22 3,Ym 23 5,Yk 24 12 23,Yo 25 (.append 1 1 false none none 22 (.s 24)),YM 3 25]
def z24a:z1c:=
 Yq (.block 1 (Yr [1,3,5,18,19] [Yo 21 (.idxA none 1 6 (.s 18) (.s 19)),Ym 5 21] z45a)) (Yu [1,3,18,19] [YB 26 .add 19 1,Ym 19 26])
def z2Ma:z1c:=
 Yq (Yd 20 (Yy [1,3,18,19]) (YY [1,3])) z24a
def z1Ma:z1c:=
 Yr [1,3,18,19,20] [YB 20 .lss 19 6] z2Ma
def z95a:z1c:=
 .block 0 (.loop z1Ma)
def z27a:z1c:=
 YR [2] [.norm [1]] [YM 27 3,Yf 28 6 1,Yl 29 1 28,Yk 30 7 29,Yf 31 7 1,Yl 32 1 31,Yk 33 39 32,Yo 34 (.buildSl 1 3 [.sl .plain none 0 [],.sl .plain none 0 [],.sl .plain none 0 []] [(0,1,.s 27),(1,1,.s 30),(2,1,.s 33)]),Yk 35 129 34,YM 2 35] .ret
def z25a:z1c:=
 Yq (YR [1,3,18,19] [.norm [1]] [Yf 6 0 1,Yl 7 1 6,Yf 8 1 1,Yl 9 1 8,Yf 10 2 1,Yl 11 1 10,Yf 12 3 1,Yl 13 1 12,Yf 14 4 1,Yl 15 1 14,Yf 16 5 1,Yl 17 1 16,Yo 18 (.build [i64 0,i64 0,i64 0,i64 0,i64 0,i64 0] [(0,1,.s 7),(1,1,.s 9),(2,1,.s 11),(3,1,.s 13),(4,1,.s 15),(5,1,.s 17)]),Yc 19 0] z95a) z27a
def z85a:z1c:=
 Yr [1,3] [Yo 3 (.mv true (.c (.sl (.own 1) none 0 [])))] z25a
def z1za:z1ka:=
 {n:=1,wr:=[],res:=[.t 2],body:=YR [1] [.norm [1]] [Yx 1 1 8 0,Yo 2 (.mv true (.c (.sl (.own 1) none 0 [])))] z85a}
def z6ta:z1c:=
 YR [4] [.norm [2,3]] [Yf 11 0 2,Yl 12 2 11,Yf 13 0 3,Yl 14 3 13,Yb 15 .eql 12 14,Ym 16 15,YG 16 (Yf 17 1 2),YG 16 (Yl 18 2 17),YG 16 (Yf 19 1 3),YG 16 (Yl 20 3 19),YG 16 (Yb 21 .eql 18 20),Yp 22 16 21,Ym 23 22,YG 23 (Yf 24 2 2),YG 23 (Yl 25 2 24),YG 23 (Yf 26 2 3),YG 23 (Yl 27 3 26),YG 23 (Yb 28 .eql 25 27),Yp 29 23 28,Ym 30 29,YG 30 (Yf 31 3 2),YG 30 (Yl 32 2 31),YG 30 (Yf 33 3 3),YG 30 (Yl 34 3 33),YG 30 (Yb 35 .eql 32 34),Yp 36 30 35,Ym 37 36,YG 37 (Yf 38 4 2),YG 37 (Yl 39 2 38),YG 37 (Yf 40 4 3),YG 37 (Yl 41 3 40),YG 37 (Yb 42 .eql 39 41),Yp 43 37 42,Ym 44 43,YG 44 (Yf 45 5 2),YG 44 (Yl 46 2 45),YG 44 (Yf 47 5 3),YG 44 (Yl 48 3 47),YG 44 (Yb 49 .eql 46 48),Yp 50 44 49,Ym 51 50,YG 51 (Yf 52 6 2),YG 51 (Yl 53 2 52),YG 51 (Yf 54 6 3),YG 51 (Yl 55 3 54),YG 51 (Yb 56 .eql 53 55),Yp 57 51 56,Ym 58 57,YG 58 (Ym 59 5),YG 58 (Ym 60 6),YG 58 (YK 61 132 59 60),Yp 62 58 61,Ym 4 62] .ret
def z2ib:z1c:=
 YR [2,3,5,6] [.norm [2,3]] [Yf 7 7 2,Yl 8 2 7,Yf 9 7 3,Yl 10 3 9,YM 5 8,YM 6 10] z6ta
def z4Ca:z1ka:=
 {n:=2,wr:=[],res:=[.t 4],body:=YR [2,3] [.norm [2,3]] [Yx 2 2 8 0,Yx 3 3 8 1,Yw 4 false] z2ib}
def z98a:z1c:=
 Yd 20 (Yu [3,9,10,11] [Yo 21 .unsup,YO .unsup]) (Yy [3,9,10,11])
def z1ab:z1c:=
 Yr [3,9,10,11,20] [Ym 19 3,YB 20 .lss 19 0] z98a
def z48a:z1c:=
 Yr [3,9,10,11] [Ym 15 3,YM 16 5,Yn 17 16,Yb 18 .add 15 17,Ym 3 18] z1ab
def z5ab:z1c:=
 Yq (.block 1 (Yr [3,5,9,10,11] [Yi 13 1 9 11,Yj 14 13,YM 5 14] z48a)) (Yu [3,9,10,11] [YB 22 .add 11 1,Ym 11 22])
def z7Pa:z1c:=
 Yq (Yd 12 (Yy [3,9,10,11]) (YY [3])) z5ab
def z1Qa:z1c:=
 Yr [3,9,10,11,12] [Yb 12 .lss 11 10] z7Pa
def z8ab:z1c:=
 .block 0 (.loop z1Qa)
def z04a:z1c:=
 Yu [6,25,26,27] [YM 31 6,YM 32 8,Yo 33 (.append 1 1 false none none 31 (.s 32)),YM 6 33]
def z66a:z1c:=
 Yq (.block 3 (Yr [6,8,25,26,27] [Yi 29 1 25 27,Yj 30 29,YM 8 30] z04a)) (Yu [6,25,26,27] [YB 34 .add 27 1,Ym 27 34])
def z5La:z1c:=
 Yq (Yd 28 (Yy [6,25,26,27]) (.ghost (.keep [6]) (.exit 2))) z66a
def z4Qa:z1c:=
 Yr [6,25,26,27,28] [Yb 28 .lss 27 26] z5La
def z56a:z1c:=
 .block 2 (.loop z4Qa)
def z06a:z1c:=
 Yr [2] [YM 35 6,YM 2 35] .ret
def z58a:z1c:=
 Yq (Yr [6,25,26,27] [Ym 25 0,Yn 26 25,Yc 27 0] z56a) z06a
def z99a:z1c:=
 Yr [6] [Ym 23 3,Yo 24 (.call 139 [.c (.lit (.slice none 0 0)),.s 23] []),YM 6 24] z58a
def z39a:z1c:=
 Yq (Yr [3,9,10,11] [Ym 9 0,Yn 10 9,Yc 11 0] z8ab) z99a
def z38a:z1c:=
 Yr [3] [Yc 3 0] z39a
def z3Aa:z1ka:=
 {n:=1,wr:=[],res:=[.t 2],body:=Yr [] [Yo 2 (.mv true (.c (.sl (.own 1) none 0 [])))] z38a}
def z6Ua:z1c:=
 Yd 10 (Yr [4] [Yw 4 false] .ret) (Yy [])
def z9Va:z1c:=
 Yd 24 (Yr [4] [Yw 4 false] .ret) (Yy [12,13])
def z4Ua:z1c:=
 Yr [12,13,24] [Ym 16 0,Ym 17 5,Yi 18 1 16 17,Yj 19 18,Ym 20 1,Ym 21 5,Yi 22 1 20 21,Yj 23 22,Yb 24 .neq 19 23] z9Va
def z0Ua:z1c:=
 Yq (.block 1 (Yr [5,12,13] [Ym 15 13,Ym 5 15] z4Ua)) (Yu [12,13] [YB 25 .add 13 1,Ym 13 25])
def z1Ka:z1c:=
 Yq (Yd 14 (Yy [12,13]) (YY [])) z0Ua
def z9Ja:z1c:=
 Yr [12,13,14] [Yb 14 .lss 13 12] z1Ka
def z5hb:z1c:=
 .block 0 (.loop z9Ja)
def z3eb:z1c:=
 Yr [4] [Yw 4 true] .ret
def z4fb:z1c:=
 Yq (Yr [12,13] [Ym 11 0,Yn 12 11,Yc 13 0] z5hb) z3eb
def z2Ua:z1c:=
 Yq (Yr [10] [Ym 6 0,Yn 7 6,Ym 8 1,Yn 9 8,Yb 10 .neq 7 9] z6Ua) z4fb
def z9za:z1ka:=
 {n:=2,wr:=[],res:=[.t 4],body:=Yr [] [Yw 4 false] z2Ua}
end Go.Abs
end

section
namespace Go.Abs
end Go.Abs
end

section
namespace Go.Abs
end Go.Abs
end

section
namespace Go.Abs
@[simp] theorem gC9 (a b c d e f:Int) (s:List UInt8) (nl:Option Bool) (n:Nat) (l:List Int) (x:z0a):z4Cc [i64 a,i64 b,i64 c,i64 d,i64 e,i64 f,st s,.sl .plain nl n (z6Ba l),x]=⟨a,b,c,d,e,f,s,l⟩:=by simp[z4Cc,nth]
end Go.Abs
end

section
namespace Go.Abs
end Go.Abs
end

section
namespace Go.Abs
def dig (c:UInt8):UInt8:=at8 [48,49,50,51,52,53,54,55,56,57,97,98,99,100,101,102] c.toNat
def z2de (pre:List z0a→Prop):z1f:=⟨pre,fun _=>bo true⟩
def z9Gc:z1f:=z2de fun ds=>ds=[]
@[simp] theorem z9ae:z9Gc.pre []=True:=eq_true rfl
@[simp] theorem z34d (ds:List z0a):z9Gc.post ds=bo true:=rfl
end Go.Abs
end

section
namespace Go.Abs
theorem z7Jc {n:Nat} (h0:n≠0) (h1:n<256):z2k n=[UInt8.ofNat n]:=by rw[z6h h0,Nat.div_eq_of_lt h1,z0g]
theorem dig1:z2k 1=[1]:=z7Jc (by decide) (by decide)
theorem dig2:z2k 2=[2]:=z7Jc (by decide) (by decide)
theorem enc0:z3r 0=[128]:=by simp[z3r,mag,flp,z0g]
theorem enc1:z3r 1=[129,1]:=by simp[z3r,mag,flp,dig1]
theorem enc2:z3r 2=[129,2]:=by simp[z3r,mag,flp,dig2]
def exD:List UInt8:=[1,2,0,0,0,0,0,0,0,0,0,0,0,0,0,0]
theorem x1:z6m [130,1,0,9]=(256,3,0):=by decide
theorem x2:z6m [130,1]=(0,0,5):=by decide
theorem x3:z6m [129,0]=(0,0,6):=by decide
theorem x4:z36d [129,2,97,98,7]=([97,98],4,0):=by decide
theorem x5:z0oa z6m 1 [129,2,129,1,127]=([1,-1],5,0):=by decide
theorem x6:z10d (z1Td 1 exD)=(exD,18,0):=by rw[z1Td,show((1:Nat):Int)=1 from rfl,enc1];decide
theorem x7:z0oa z36d 1 [129,2,128,129,1,97,5]=([[],[97]],6,0):=by decide
theorem x8:z9Nd [[],[97]]=[129,2,128,129,1,97]:=by simp[z9Nd,z2X,enc0,enc1,enc2]
theorem f1 (x:UInt8):[u8 x]=bys [x]:=rfl
theorem f2 (x:UInt8) (l:List UInt8):u8 x::bys l=bys (x::l):=rfl
theorem f3 (x:List UInt8):[st x]=sts [x]:=rfl
theorem f4 (x:List UInt8) (l:List (List UInt8)):st x::sts l=sts (x::l):=rfl
theorem f5 (x:Int):[i64 x]=z6Ba [x]:=rfl
theorem f6 (x:Int) (l:List Int):i64 x::z6Ba l=z6Ba (x::l):=rfl
end Go.Abs
end

section
namespace Go.Abs
end Go.Abs
end

section
namespace Go.Abs
end Go.Abs
end

section
namespace Go.Abs
end Go.Abs
end

section
namespace Go.Abs
def gok (t:Bool) (p:Prop):Prop:=t=true→p
@[simp] theorem gok_f (p:Prop):gok false p=True:=by simp[gok]
@[simp] theorem gok_t (p:Prop):gok true p=p:=by simp[gok]
@[simp] theorem gok_T (t:Bool):gok t True=True:=by simp[gok]
@[simp high] theorem z53 (E:Env) (d s:Nat) (w:Bool) (op:AOp) (o e:List (Nat×z0a)) (b:List (Nat×Option (List z0a))):
  okA E ⟨some d,some (s,w),op⟩ ⟨o,e,b⟩=((∀x∈d::op.wrS,lk o x=none)∧okG (ASt.get ⟨o,e,b⟩ s)∧gok (z3G (ASt.get ⟨o,e,b⟩ s) w) (okp E (ASt.get ⟨o,e,b⟩) (ASt.getB ⟨o,e,b⟩) op)):=rfl
end Go.Abs
end

section
namespace Go.Abs
def rt (d:List UInt8) (nl nb:Option Bool) (ls:List Int) (b:List UInt8):List z0a:=[st d,.sl .plain nl ls.length (z6Ba ls),.sl .plain nb b.length (bys b)]
end Go.Abs
end

section
namespace Go.Abs
@[simp] theorem z2ja (E:Env) (a b:z1c) (Q:z5c→ASt→Prop) (s:ASt):awp E (.alt a b) Q s=(awp E a Q s∨awp E b Q s):=rfl
@[simp] theorem z3X (f:Nat) (x y:List z0a):z5b (.fn f x y)=false:=rfl
def d1 (b:List UInt8):List Int×List UInt8×Nat:=z0ka 6 b
def c1 (b:List UInt8):Cmd:=setN z8u (d1 b).1
def b1 (b:List UInt8):List UInt8:=(d1 b).2.1
def d2 (b:List UInt8):List UInt8×Nat×Nat:=z36d (b1 b)
def c2 (b:List UInt8):Cmd:={c1 b with data:=(d2 b).1}
def b2 (b:List UInt8):List UInt8:=aft (b1 b) (d2 b).2.1 (d2 b).2.2
def d3 (b:List UInt8):List Int×Nat×Nat:=z0oa z6m 1 (b2 b)
def c3 (b:List UInt8):Cmd:={c2 b with list:=(d3 b).1}
def b3 (b:List UInt8):List UInt8:=aft (b2 b) (d3 b).2.1 (d3 b).2.2
def dst (b:List UInt8):Nat→Cmd×List UInt8
 |0=>(z8u,b)
 |1=>(c1 b,b1 b)
 |2=>(c2 b,b2 b)
 |_=>(c3 b,b3 b)
end Go.Abs
end

section
namespace Go.Abs
end Go.Abs
end
