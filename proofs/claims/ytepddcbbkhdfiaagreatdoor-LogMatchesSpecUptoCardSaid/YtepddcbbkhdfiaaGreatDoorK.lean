/- Lemmas: an abstract interpreter, and what the functions compute. -/
import Derived.Test.YtepddcbbkhdfiaaGreatDoorJ
import Derived.Test.YtepddcbbkhdfiaaGreatDoorI
import Derived.Test.YtepddcbbkhdfiaaGreatDoorG
import Derived.Test.YtepddcbbkhdfiaaGreatDoorH
set_option linter.unusedSimpArgs false
set_option linter.unusedVariables false
set_option linter.unusedSectionVars false
section
namespace Go.Abs
instance :DecidableEq z3P:=fun a b=>decidable_of_iff (a.id=b.id∧a.ty=b.ty∧a.uses=b.uses∧a.beg=b.beg∧a.fin=b.fin∧a.ver=b.ver∧a.par=b.par∧a.raw=b.raw∧a.dig=b.dig) (by
 cases a;cases b;simp)
def inR (n lo hi:Int):Bool:=decide (lo≤n)&&decide (n≤hi)
def z2jc:Int:=2147483647
def z0yc:Int:=1099511627776
def z0Kc (k:Int):Bool:=decide (k∈([2,4,5,6,8,10,15,19]:List Int))
def z1Ec (c:Cmd):Cmd:=if z0Kc c.kind=true then {c with data:=[]} else c
def z8Rd:List UInt8:=z5j 16
def z1kc (t m:Int):z2n:=⟨t,0,0,m,z9u,z8Rd,[],[]⟩
def z5Qa (x y:z2n):Bool:=x.time==y.time&&x.kind==y.kind&&x.req==y.req&&x.mode==y.mode&&decide (x.dig=y.dig)&&z7Hb x.cmd y.cmd&&decide (x.made=y.made)&&decide (x.gone=y.gone)
theorem z8Hb (x y:z2n):z5Qa x y=true↔x=y:=by
 obtain⟨a1,a2,a3,a4,a5,a6,a7,a8⟩:=x
 obtain⟨b1,b2,b3,b4,b5,b6,b7,b8⟩:=y
 simp only[z5Qa,Bool.and_eq_true,beq_iff_eq,decide_eq_true_eq,z5Pc,z2n.mk.injEq]
 constructor
 ·rintro⟨⟨⟨⟨⟨⟨⟨h1,h2⟩,h3⟩,h4⟩,h5⟩,h6⟩,h7⟩,h8⟩
  exact⟨h1,h2,h3,h4,h6,h5,h7,h8⟩
 ·rintro⟨h1,h2,h3,h4,h6,h5,h7,h8⟩
  exact⟨⟨⟨⟨⟨⟨⟨h1,h2⟩,h3⟩,h4⟩,h5⟩,h6⟩,h7⟩,h8⟩
def z8zb (m:z3P):Bool:=inR m.id 1 z2jc&&inR m.ver 1 z2jc&&inR m.par 0 z2jc&&inR m.ty 0 31&&z2Zb m.uses&&inR m.beg 0 m.fin&&inR m.fin 0 z0yc
def okE (x:z2n):Bool:=inR x.time 0 z0yc&&inR x.req 0 z2jc&&inR x.mode 1 5&&decide (x.made.length≤4096)&&decide (x.gone.length≤4096)&&x.made.all z8zb&&
 (if x.kind=0 then z5Qa x (z1kc x.time x.mode) else inR x.kind 1 27&&(x.cmd.kind==x.kind)&&(!z0Kc x.kind||decide (x.cmd.data=[])))
def mad0:z3P:=⟨0,0,0,0,0,0,0,false,z8Rd⟩
end Go.Abs
end

section
namespace Go.Abs
/-! ### Lists of values of one width -/
def gLw {α:Type} (w:Nat) (g:List z0a→α) (n:Nat) (cs:List z0a):List α:=(List.range n).map fun i=>g ((cs.drop (i*w)).take w)
theorem z9sb {α:Type} {w:Nat} {enc:α→List z0a} {P:α→Prop} (h1:∀a,P a→(enc a).length=w):∀(l:List α) (i:Nat),(∀a∈l,P a)→(l.flatMap enc).drop (i*w)=(l.drop i).flatMap enc
 |[],i,_=>by simp
 |a::l,0,_=>by simp
 |a::l,i+1,h=>by
  rw[List.drop_succ_cons,←z9sb h1 l i (fun b hb=>h b (by simp[hb])),List.flatMap_cons,show(i+1)*w=(enc a).length+i*w by rw[h1 a (h a (by simp)),Nat.succ_mul,Nat.add_comm],←List.drop_drop,List.drop_left]
theorem z91c {α:Type} {w:Nat} {g:List z0a→α} {enc:α→List z0a} {P:α→Prop} (h1:∀a,P a→(enc a).length=w) (h2:∀a,P a→g (enc a)=a) (l:List α) (h:∀a∈l,P a):gLw w g l.length (l.flatMap enc)=l:=by
 apply List.ext_getElem
 ·simp[gLw]
 ·intro i a1 a2
  simp only[gLw,List.getElem_map,List.getElem_range]
  have hm:=h _ (List.getElem_mem a2)
  rw[z9sb h1 l i h,List.drop_eq_getElem_cons a2,List.flatMap_cons,←h1 _ hm,List.take_left,h2 _ hm]
def z0md (l:List z0a):z3P:=⟨asI (nth l 0),asI (nth l 1),asI (nth l 2),asI (nth l 3),asI (nth l 4),asI (nth l 5),asI (nth l 6),asB (nth l 7),gBs (l.drop 8)⟩
theorem z9Hb (m:z3P):z0md (z5Ma m)=m:=by
 simp[z0md,z5Ma,nth]
theorem z3Ja {m:z3P} (h:m.dig.length=16):(z5Ma m).length=24:=by simp[z5Ma,h]
def z94b (n:Nat) (cs:List z0a):List z3P:=gLw 24 z0md n cs
def z6uc (m:z3P):Prop:=m.dig.length=16
theorem z9Ib {l:List z3P} (h:∀m∈l,z6uc m):z94b l.length (z0Ca l)=l:=z91c (enc:=z5Ma) (P:=z6uc) (fun a ha=>z3Ja ha) (fun a _=>z9Hb a) l h
def gNn (d:z0a):Nat:=match d with| .sl _ _ n _=>n|_=>0
def z2gc (l:List z0a):z2n:=⟨asI (nth l 0),asI (nth l 1),asI (nth l 2),asI (nth l 3),z3Jc (l.drop 4),gBs ((l.drop 12).take 16),z94b (gNn (nth l 28)) (gCs (nth l 28)),gIs (gCs (nth l 29))⟩
theorem z0ic {nc nm ng:Option Bool} {x:z2n} (hd:x.dig.length=16) (hm:∀m∈x.made,z6uc m):z2gc (z7va nc nm ng x)=x:=by
 have e1:(z7va nc nm ng x).drop 4=z49a x.cmd nc++(bys x.dig++[.sl .plain nm x.made.length (z0Ca x.made),.sl .plain ng x.gone.length (z1Aa x.gone)]):=by simp[z7va]
 have e2:(z7va nc nm ng x).drop 12=bys x.dig++[.sl .plain nm x.made.length (z0Ca x.made),.sl .plain ng x.gone.length (z1Aa x.gone)]:=by
  rw[show 12=4+8 by rfl,←List.drop_drop,e1];rfl
 have e3:(z7va nc nm ng x).drop 28=[.sl .plain nm x.made.length (z0Ca x.made),.sl .plain ng x.gone.length (z1Aa x.gone)]:=by
  rw[show 28=12+16 by rfl,←List.drop_drop,e2,List.drop_left' (by simp[hd])]
 have e4:nth (z7va nc nm ng x) 28= .sl .plain nm x.made.length (z0Ca x.made):=by
  have:=congrArg (fun l=>nth l 0) e3
  simpa[nth] using this
 have e5:nth (z7va nc nm ng x) 29= .sl .plain ng x.gone.length (z1Aa x.gone):=by
  have:=congrArg (fun l=>nth l 1) e3
  simpa[nth] using this
 have e6:∀r,z3Jc (z49a x.cmd nc++r)=x.cmd:=fun r=>z1nc x.cmd nc
 rw[z2gc,e4,e5,e1,e2,e6,List.take_left' (by simp[hd])]
 simp only[gNn,gCs,z9Ib hm]
 simp[z7va,nth]
end Go.Abs
end

section
namespace Go.Abs
def z59a (l:List z3P):Prop:=∀m∈l,m.ok
theorem z1Ca {l:List z3P} (h:z59a l):∀m∈l,z6uc m:=fun m hm=>(h m hm).2.2.2.2.2.2.2
theorem z4Va {l:List z3P} (h:∀m∈l,z6uc m):(z0Ca l).length=l.length*24:=by
 induction l with
 |nil=>rfl
 |cons a l ih=>
  have:=ih fun m hm=>h m (by simp[hm])
  rw[z0Ca] at this⊢
  rw[List.flatMap_cons,List.length_append,this,z3Ja (h a (by simp)),List.length_cons];omega
theorem z5Oa {nc nm ng:Option Bool} {x:z2n} (h:x.dig.length=16):(z7va nc nm ng x).length=30:=by simp[z7va,z49a,h]
/-! ### Small parts -/
def z7qd:z1f:=⟨fun ds=>∃n lo hi:Int,ds=[i64 n,i64 lo,i64 hi],fun ds=>bo (inR (asI (nth ds 0)) (asI (nth ds 1)) (asI (nth ds 2)))⟩
@[simp] theorem z5ie (n lo hi:Int):z7qd.pre [i64 n,i64 lo,i64 hi]=True:=eq_true ⟨n,lo,hi,rfl⟩
@[simp] theorem z79c (n lo hi:Int):z7qd.post [i64 n,i64 lo,i64 hi]=bo (inR n lo hi):=rfl
def z7Jd:z1f:=⟨fun ds=>∃k:Int,ds=[i64 k],fun ds=>bo (z0Kc (asI (nth ds 0)))⟩
@[simp] theorem z2ie (k:Int):z7Jd.pre [i64 k]=True:=eq_true ⟨k,rfl⟩
@[simp] theorem z39c (k:Int):z7Jd.post [i64 k]=bo (z0Kc k):=rfl
def z6je:z1f:=⟨fun ds=>∃(c:Cmd) (nl:Option Bool),c.small∧ds=[.agg (z49a c nl)],fun ds=> .agg (z49a (z1Ec (z3Jc (gCs (nth ds 0)))) none)⟩
def gNc (d:z0a):Option Bool:=match d with| .agg l=>(match nth l 7 with| .sl _ nl _ _=>nl|_=>none)|_=>none
def z6wc:z1f:=⟨z6je.pre,fun ds=> .agg (z49a (z1Ec (z3Jc (gCs (nth ds 0)))) (gNc (nth ds 0)))⟩
theorem z88c {c:Cmd} {nl:Option Bool} (h:c.small):z6wc.pre [.agg (z49a c nl)]=True:=eq_true ⟨c,nl,h,rfl⟩
theorem z4mc (c:Cmd) (nl:Option Bool):z6wc.post [.agg (z49a c nl)]= .agg (z49a (z1Ec c) nl):=by
 show z0a.agg (z49a (z1Ec (z3Jc (z49a c nl))) (gNc (.agg (z49a c nl))))=_
 rw[z1nc];rfl
def z8Ed:z1f:=⟨fun ds=>∃t m:Int,ds=[i64 t,i64 m],fun ds=> .agg (z7va none none none (z1kc (asI (nth ds 0)) (asI (nth ds 1))))⟩
@[simp] theorem z7ke (t m:Int):z8Ed.pre [i64 t,i64 m]=True:=eq_true ⟨t,m,rfl⟩
@[simp] theorem z9fd (t m:Int):z8Ed.post [i64 t,i64 m]= .agg (z7va none none none (z1kc t m)):=rfl
/-! ### Entries -/
def z4Oc (ds:List z0a):Prop:=∃(nc nm ng:Option Bool) (x:z2n),x.small∧ds=[.agg (z7va nc nm ng x)]
theorem z3wc {nc nm ng:Option Bool} {x:z2n} (h:x.small):z2gc (z7va nc nm ng x)=x:=z0ic h.1.2.2.2.2.2.1 (z1Ca h.1.2.2.2.2.2.2.1)
def z6cc:z1f:=⟨z4Oc,fun ds=>bo (okE (z2gc (gCs (nth ds 0))))⟩
theorem z2uc {nc nm ng:Option Bool} {x:z2n} (h:x.small):z6cc.pre [.agg (z7va nc nm ng x)]=True:=eq_true ⟨nc,nm,ng,x,h,rfl⟩
theorem z0Hb {nc nm ng:Option Bool} {x:z2n} (h:x.small):z6cc.post [.agg (z7va nc nm ng x)]=bo (okE x):=by
 show bo (okE (z2gc (z7va nc nm ng x)))=_
 rw[z3wc h]
def z5Sb:z1f:=⟨z4Oc,fun ds=>st (z9Db (z2gc (gCs (nth ds 0))))⟩
theorem z3Cc {nc nm ng:Option Bool} {x:z2n} (h:x.small):z5Sb.pre [.agg (z7va nc nm ng x)]=True:=eq_true ⟨nc,nm,ng,x,h,rfl⟩
theorem z5Ib {nc nm ng:Option Bool} {x:z2n} (h:x.small):z5Sb.post [.agg (z7va nc nm ng x)]=st (z9Db x):=by
 show st (z9Db (z2gc (z7va nc nm ng x)))=_
 rw[z3wc h]
def z9ub:z1f:=⟨z4Oc,fun ds=> .agg (bys (z0f 8 [z9Db (z2gc (gCs (nth ds 0)))]))⟩
theorem z6zc {nc nm ng:Option Bool} {x:z2n} (h:x.small):z9ub.pre [.agg (z7va nc nm ng x)]=True:=eq_true ⟨nc,nm,ng,x,h,rfl⟩
theorem z1wb {nc nm ng:Option Bool} {x:z2n} (h:x.small):z9ub.post [.agg (z7va nc nm ng x)]= .agg (bys (z0f 8 [z9Db x])):=by
 show z0a.agg (bys (z0f 8 [z9Db (z2gc (z7va nc nm ng x))]))=_
 rw[z3wc h]
def z6Sb:z1f:=⟨fun ds=>∃(nc nm ng nc' nm' ng':Option Bool) (x y:z2n),x.small∧y.small∧ds=[.agg (z7va nc nm ng x),.agg (z7va nc' nm' ng' y)],fun ds=>bo (z5Qa (z2gc (gCs (nth ds 0))) (z2gc (gCs (nth ds 1))))⟩
theorem z6Ec {nc nm ng nc' nm' ng':Option Bool} {x y:z2n} (h:x.small) (h':y.small):z6Sb.pre [.agg (z7va nc nm ng x),.agg (z7va nc' nm' ng' y)]=True:=eq_true ⟨nc,nm,ng,nc',nm',ng',x,y,h,h',rfl⟩
theorem z4Jb {nc nm ng nc' nm' ng':Option Bool} {x y:z2n} (h:x.small) (h':y.small):z6Sb.post [.agg (z7va nc nm ng x),.agg (z7va nc' nm' ng' y)]=bo (z5Qa x y):=by
 show bo (z5Qa (z2gc (z7va nc nm ng x)) (z2gc (z7va nc' nm' ng' y)))=_
 rw[z3wc h,z3wc h']
/-! ### Views -/
end Go.Abs
end

section
namespace Go.Abs
def kM:List LK:=[.int .i64,.int .i64,.int .i64,.int .i64,.int .i64,.int .i64,.int .i64,.bool,.int .u8,.int .u8,.int .u8,.int .u8,.int .u8,.int .u8,.int .u8,.int .u8,.int .u8,.int .u8,.int .u8,.int .u8,.int .u8,.int .u8,.int .u8,.int .u8]
end Go.Abs
end

section
namespace Go.Abs
set_option maxRecDepth 100000
def z4Na:z1ka:=
 {n:=2,wr:=[],res:=[.cell 4 (some 30) 4],body:=YR [4] [.norm [4]] [Yo 4 (.alloc 4 (List.replicate 10 (i64 0)++[st []]++[.sl .plain none 0 []]++bys (z5j 16)++[.sl (.own 24) none 0 []]++[.sl (.own 1) none 0 []]))] (YR [4] [.norm [4]] [Ym 5 0,Ym 6 1,Yo 7 (.build (List.replicate 10 (i64 0)++[st []]++[.sl .plain none 0 []]++bys (z5j 16)++[.sl .plain none 0 []]++[.sl .plain none 0 []]) [(0,1,.s 5),(3,1,.s 6)]),Ys 30 4 4 7] .ret)}
def z5tb:List z6a:=
 [Yf 4 0 1,Yl 5 1 4,YD 6 295 5 0 1099511627776,YU 7 .not 6,Ym 8 7]
def z1ub:List z6a:=
 [Yg 8 (Yf 9 2 1),Yg 8 (Yl 10 1 9),Yg 8 (YD 11 295 10 0 2147483647),Yg 8 (YU 12 .not 11),YP 13 8 12,Ym 14 13]
def z0ub:List z6a:=
 [Yg 14 (Yf 15 3 1),Yg 14 (Yl 16 1 15),Yg 14 (YD 17 295 16 1 5),Yg 14 (YU 18 .not 17),YP 19 14 18,Ym 20 19]
def z6tb:List z6a:=
 [Yg 20 (Yf 21 28 1),Yg 20 (Yl 22 1 21),Yg 20 (Yn 23 22),Yg 20 (YB 24 .gtr 23 4096),YP 25 20 24,Ym 26 25]
def z98a:List z6a:=
 [Yg 26 (Yf 27 29 1),Yg 26 (Yl 28 1 27),Yg 26 (Yn 29 28),Yg 26 (YB 30 .gtr 29 4096),YP 31 26 30]
def z19a:List z6a:=
 [Yf 46 1 1,Yl 47 1 46,YD 48 295 47 1 27,Ym 49 48]
def z1Qa:List z6a:=
 [YG 49 (Yf 50 4 1),YG 49 (Yf 51 0 50),YG 49 (Yl 52 1 51),YG 49 (Yf 53 1 1),YG 49 (Yl 54 1 53),YG 49 (Yb 55 .eql 52 54),Yp 56 49 55,Ym 57 56]
def z8Ja:List z6a:=
 [YG 57 (Yf 58 1 1),YG 57 (Yl 59 1 58),YG 57 (Yk 60 293 59),YG 57 (YU 61 .not 60),YG 57 (Ym 62 61),Yg 62 (Yf 63 4 1),Yg 62 (Yf 64 6 63),Yg 62 (Yl 65 1 64),Yg 62 (YW 66 .eql 65 (st [])),YG 57 (YP 67 62 66),Yp 68 57 67,Ym 2 68]
def z4ub:z1c:=
 YR [2] [.norm [1,3]] (z19a++z1Qa++z8Ja) .ret
def z08a:z1c:=
 Yq (YR [1,38] [.norm [1,3]] [Yf 36 1 1,Yl 37 1 36,YB 38 .eql 37 0] (Yd 38 (YR [2] [.norm [1,3]] [YL 39 30 1 1,Yf 40 0 1,Yl 41 1 40,Yf 42 3 1,Yl 43 1 42,YK 44 294 41 43,YK 45 299 39 44,Ym 2 45] .ret) (Yy [1]))) z4ub
def z3Qa:z1c:=
 YR [1,3] [.norm [1,3]] [Yo 3 (.alloc 3 [.lit .nilFunc]),YO (.store none 3 false (.s 3) (.c (.fn 296 [] [])))] (Yq (YR [1,35] [.norm [1,3]] [Yf 32 28 1,Yl 33 1 32,Yo 34 (.mkfn 297 [] [.s 3]),Yo 35 (.call 298 [.s 33,.s 34] [3])] (Yd 35 (Yr [2] [Yw 2 false] .ret) (Yy [1]))) z08a)
def z3Ia:z1ka:=
 {n:=1,wr:=[],res:=[.t 2],body:=YR [1] [.norm [1]] [Yx 1 1 30 0,Yw 2 false] (Yq (YR [1,31] [.norm [1]] (z5tb++z1ub++z0ub++z6tb++z98a) (Yd 31 (Yr [2] [Yw 2 false] .ret) (Yy [1]))) z3Qa)}
def z3vb:List z6a:=
 [Yf 5 0 2,Yl 6 2 5,Yf 7 0 3,Yl 8 3 7,Yb 9 .eql 6 8,Ym 10 9]
def z0xb:List z6a:=
 [YG 10 (Yf 11 1 2),YG 10 (Yl 12 2 11),YG 10 (Yf 13 1 3),YG 10 (Yl 14 3 13),YG 10 (Yb 15 .eql 12 14),Yp 16 10 15,Ym 17 16]
def z7yb:List z6a:=
 [YG 17 (Yf 18 2 2),YG 17 (Yl 19 2 18),YG 17 (Yf 20 2 3),YG 17 (Yl 21 3 20),YG 17 (Yb 22 .eql 19 21),Yp 23 17 22,Ym 24 23]
def z7wb:List z6a:=
 [YG 24 (Yf 25 3 2),YG 24 (Yl 26 2 25),YG 24 (Yf 27 3 3),YG 24 (Yl 28 3 27),YG 24 (Yb 29 .eql 26 28),Yp 30 24 29,Ym 31 30]
def z7xb:List z6a:=
 [YG 31 (Yf 32 12 2),YG 31 (YL 33 16 2 32),YG 31 (Yf 34 12 3),YG 31 (YL 35 16 3 34),YG 31 (Yo 36 (.eqF (ks8 16) false (.s 33) (.s 35))),Yp 37 31 36,Ym 38 37]
def z3yb:List z6a:=
 [YG 38 (Yf 39 4 2),YG 38 (YL 40 8 2 39),YG 38 (Yf 41 4 3),YG 38 (YL 42 8 3 41),YG 38 (YK 43 133 40 42),Yp 44 38 43,Ym 45 44]
def z4yb:List z6a:=
 [YG 45 (Yf 46 28 2),YG 45 (Yl 47 2 46),YG 45 (Yf 48 28 3),YG 45 (Yl 49 3 48),YG 45 (YK 50 301 47 49),Yp 51 45 50,Ym 52 51]
def z8xb:List z6a:=
 [YG 52 (Yf 53 29 2),YG 52 (Yl 54 2 53),YG 52 (Yf 55 29 3),YG 52 (Yl 56 3 55),YG 52 (YK 57 132 54 56),Yp 58 52 57,Ym 4 58]
def z7Na:z1ka:=
 {n:=2,wr:=[],res:=[.t 4],body:=YR [2,3] [.norm [2,3]] [Yx 2 2 30 0,Yx 3 3 30 1,Yw 4 false] (YR [4] [.norm [2,3]] (z3vb++z0xb++z7yb++z7wb++z7xb++z3yb++z4yb++z8xb) .ret)}
def z03a:z1c:=
 Yu [1,3,31,32,33] [YM 39 3,Yf 40 0 5,Yj 41 40,Yf 42 1 5,Yj 43 42,Yf 44 2 5,Yj 45 44,Yf 46 3 5,Yj 47 46,Yf 48 4 5,Yj 49 48,Yf 50 5 5,Yj 51 50,Yf 52 6 5,Yj 53 52,Ym 54 6,Yo 55 (.buildSl 1 8 [i64 0,i64 0,i64 0,i64 0,i64 0,i64 0,i64 0,i64 0] [(0,1,.s 41),(1,1,.s 43),(2,1,.s 45),(3,1,.s 47),(4,1,.s 49),(5,1,.s 51),(6,1,.s 53),(7,1,.s 54)]),Yk 56 39 55,Yf 57 8 5,Yo 58 (.slArr 16 1 (.s 57) none none none),Yo 59 (.buildSl 1 3 [.sl .plain none 0 [],.sl .plain none 0 [],.sl .plain none 0 []] [(0,1,.s 39),(1,1,.s 56),(2,1,.s 58)]),Yk 60 129 59,YM 3 60]
def z32a:z1c:=
 Yq (.block 1 (YR [1,3,5,31,32,33] [.norm [5],.freeze [5],.norm []] [Yi 35 24 31 33,YJ 36 24 35,Yo 5 (.alloc 5 (List.replicate 7 (i64 0)++[bo false]++bys (z5j 16))),Ys 24 5 5 36] (Yr [1,3,5,6,31,32,33] [Yc 6 0] (Yq (Yr [1,3,5,6,31,32,33,38] [Yf 37 7 5,Yj 38 37] (Yd 38 (Yu [1,3,5,6,31,32,33] [Yc 6 1]) (Yy [1,3,5,6,31,32,33]))) z03a)))) (.region [1,3,31,32,33] [.drop [5]] [YB 61 .add 33 1,Ym 33 61])
def z2Oa:z1c:=
 Yr [1,3,31,32,33,34] [Yb 34 .lss 33 32] (Yq (Yd 34 (Yy [1,3,31,32,33]) (YY [1,3])) z32a)
def z1nb:z1c:=
 Yr [2] [YM 62 3,Yf 63 29 1,Yj 64 63,Yk 65 39 64,YN 66 1 1 62 65,Yo 67 (.toStr none (.s 66)),Ym 2 67] .ret
def z7Ea:z1ka:=
 {n:=1,wr:=[],res:=[.t 2],body:=YR [1] [.norm [1],.freeze [1],.norm []] [Yx 1 1 30 0,Yo 2 (.mv false (.c (st [])))] (Yr [1,3] [Yf 7 0 1,Yj 8 7,Yf 9 1 1,Yj 10 9,Yf 11 2 1,Yj 12 11,Yf 13 3 1,Yj 14 13,Yo 15 (.buildSl 1 4 [i64 0,i64 0,i64 0,i64 0] [(0,1,.s 8),(1,1,.s 10),(2,1,.s 12),(3,1,.s 14)]),Yk 16 39 15,Yf 17 4 1,YJ 18 8 17,Yk 19 130 18,Yo 20 (.toStr none (.s 19)),Yk 21 7 20,Yf 22 12 1,Yo 23 (.slArr 16 1 (.s 22) none none none),Yf 24 28 1,Yj 25 24,Yn 26 25,Yk 27 12 26,Yo 28 (.buildSl 1 4 [.sl .plain none 0 [],.sl .plain none 0 [],.sl .plain none 0 [],.sl .plain none 0 []] [(0,1,.s 16),(1,1,.s 21),(2,1,.s 23),(3,1,.s 27)]),Yk 29 129 28,YM 3 29] (Yq (Yr [1,3,31,32,33] [Yf 30 28 1,Yj 31 30,Yn 32 31,Yc 33 0] (.block 0 (.loop z2Oa))) z1nb))}
def z8Fa:z1ka:=
 {n:=1,wr:=[],res:=[.cell 2 (some 16) 2],body:=YR [1,2] [.norm [1,2]] [Yx 1 1 30 0,Yz 2 2 16] (YR [2] [.norm [1,2]] [YL 3 30 1 1,Yk 4 302 3,Yo 5 (.buildSl 1 1 [st []] [(0,1,.s 4)]),Yo 6 (.call 8 [.c (i64 8),.s 5] []),Ys 16 2 2 6] .ret)}
def z4Fa:z1ka:=
 {n:=1,wr:=[],res:=[.t 2],body:=Yr [] [Yw 2 false] (Yr [2] [Yo 3 (.buildSl 1 8 [i64 0,i64 0,i64 0,i64 0,i64 0,i64 0,i64 0,i64 0] [(0,1,.c (i64 2)),(1,1,.c (i64 4)),(2,1,.c (i64 5)),(3,1,.c (i64 6)),(4,1,.c (i64 8)),(5,1,.c (i64 10)),(6,1,.c (i64 15)),(7,1,.c (i64 19))]),Ym 4 0,YK 5 312 3 4,Ym 2 5] .ret)}
def z6Aa:z1ka:=
 {n:=3,wr:=[],res:=[.t 6],body:=Yr [] [Yw 6 false] (Yr [6] [Ym 7 1,Ym 8 0,Yb 9 .leq 7 8,Ym 10 9,YG 10 (Ym 11 0),YG 10 (Ym 12 2),YG 10 (Yb 13 .leq 11 12),Yp 14 10 13,Ym 6 14] .ret)}
def z6jb:List z6a:=
 [Yf 3 0 1,Yl 4 1 3,YD 5 295 4 1 2147483647,Ym 6 5]
def z2ib:List z6a:=
 [YG 6 (Yf 7 5 1),YG 6 (Yl 8 1 7),YG 6 (YD 9 295 8 1 2147483647),Yp 10 6 9,Ym 11 10]
def z6ib:List z6a:=
 [YG 11 (Yf 12 6 1),YG 11 (Yl 13 1 12),YG 11 (YD 14 295 13 0 2147483647),Yp 15 11 14,Ym 16 15]
def z8gb:List z6a:=
 [YG 16 (Yf 17 1 1),YG 16 (Yl 18 1 17),YG 16 (YD 19 295 18 0 31),Yp 20 16 19,Ym 21 20]
def z4ib:List z6a:=
 [YG 21 (Yf 22 2 1),YG 21 (Yl 23 1 22),YG 21 (YB 24 .andNot 23 956),YG 21 (YB 25 .eql 24 0),Yp 26 21 25,Ym 27 26]
def z6hb:List z6a:=
 [YG 27 (Yf 28 3 1),YG 27 (Yl 29 1 28),YG 27 (Yf 30 4 1),YG 27 (Yl 31 1 30),YG 27 (Yo 32 (.call 295 [.s 29,.c (i64 0),.s 31] [])),Yp 33 27 32,Ym 34 33]
def z5Xa:List z6a:=
 [YG 34 (Yf 35 4 1),YG 34 (Yl 36 1 35),YG 34 (YD 37 295 36 0 1099511627776),Yp 38 34 37,Ym 2 38]
def z1Da:z1ka:=
 {n:=1,wr:=[],res:=[.t 2],body:=YR [1] [.norm [1]] [Yx 1 1 24 0,Yw 2 false] (YR [2] [.norm [1]] (z6jb++z2ib++z6ib++z8gb++z4ib++z6hb++z5Xa) .ret)}
def z1qa:z1ka:=
 {n:=2,wr:=[],res:=[.t 4],body:=Yr [] [Yw 4 false] (Yr [4] [Ym 5 0,Ym 6 1,YK 7 313 5 6,YB 8 .geq 7 0,Ym 4 8] .ret)}
def z2Da:z1ka:=
 {n:=2,wr:=[],res:=[.t 3],body:=YR [2] [.norm [2]] [Yx 2 2 24 0,Yw 3 false] (YR [3] [.norm [2]] [Yj 4 1,YL 5 24 2 2,Yo 6 (.callv 296 (.s 4) [.s 5] []),YU 7 .not 6,Ym 3 7] .ret)}
def z1La:z1c:=
 Yq (.block 1 (Yr [5,12,13] [Ym 15 13,Ym 5 15] (Yr [12,13,24] [Ym 16 0,Ym 17 5,Yi 18 24 16 17,YJ 19 24 18,Ym 20 1,Ym 21 5,Yi 22 24 20 21,YJ 23 24 22,Yo 24 (.eqF kM true (.s 19) (.s 23))] (Yd 24 (Yr [4] [Yw 4 false] .ret) (Yy [12,13]))))) (Yu [12,13] [YB 25 .add 13 1,Ym 13 25])
def z6Da:z1c:=
 Yr [12,13,14] [Yb 14 .lss 13 12] (Yq (Yd 14 (Yy [12,13]) (YY [])) z1La)
def z70a:z1c:=
 Yr [4] [Yw 4 true] .ret
def z0La:z1c:=
 Yq (Yr [12,13] [Ym 11 0,Yn 12 11,Yc 13 0] (.block 0 (.loop z6Da))) z70a
def z2va:z1ka:=
 {n:=2,wr:=[],res:=[.t 4],body:=Yr [] [Yw 4 false] (Yq (Yr [10] [Ym 6 0,Yn 7 6,Ym 8 1,Yn 9 8,Yb 10 .neq 7 9] (Yd 10 (Yr [4] [Yw 4 false] .ret) (Yy []))) z0La)}
def z8ua:z1c:=
 Yq (.block 1 (Yr [5,7,8] [Ym 10 8,Ym 5 10] (Yr [5,7,8,16] [Ym 11 1,Ym 12 0,Ym 13 5,Yi 14 24 12 13,YJ 15 24 14,Yo 16 (.callv 297 (.s 11) [.s 15] [])] (Yd 16 (Yr [4] [Ym 17 5,Ym 4 17] .ret) (Yy [7,8]))))) (Yu [7,8] [YB 18 .add 8 1,Ym 8 18])
def z3sa:z1c:=
 Yr [7,8,9] [Yb 9 .lss 8 7] (Yq (Yd 9 (Yy [7,8]) (YY [])) z8ua)
def z2Aa:z1c:=
 Yr [4] [Yc 4 (-1)] .ret
def z6qa:z1ka:=
 {n:=2,wr:=[],res:=[.t 4],body:=Yr [] [Yc 4 0] (Yq (Yr [7,8] [Ym 6 0,Yn 7 6,Yc 8 0] (.block 0 (.loop z3sa))) z2Aa)}
def z8za:z1ka:=
 {n:=2,wr:=[],res:=[.t 4],body:=Yr [] [Yw 4 false] (Yr [4] [Ym 5 0,Ym 6 1,YK 7 314 5 6,YB 8 .geq 7 0,Ym 4 8] .ret)}
def z31a:z1c:=
 Yq (.block 1 (Yr [5,7,8] [Ym 10 8,Ym 5 10] (Yr [5,7,8,16] [Ym 11 1,Ym 12 0,Ym 13 5,Yi 14 1 12 13,Yj 15 14,Yb 16 .eql 11 15] (Yd 16 (Yr [4] [Ym 17 5,Ym 4 17] .ret) (Yy [7,8]))))) (Yu [7,8] [YB 18 .add 8 1,Ym 8 18])
def z4Oa:z1c:=
 Yr [7,8,9] [Yb 9 .lss 8 7] (Yq (Yd 9 (Yy [7,8]) (YY [])) z31a)
def z9pb:z1c:=
 Yr [4] [Yc 4 (-1)] .ret
def z8Ea:z1ka:=
 {n:=2,wr:=[],res:=[.t 4],body:=Yr [] [Yc 4 0] (Yq (Yr [7,8] [Ym 6 0,Yn 7 6,Yc 8 0] (.block 0 (.loop z4Oa))) z9pb)}
end Go.Abs
end

section
namespace Go.Abs
theorem z4wa (a x:z0a) (l xs:List z0a):splice (a::l) 0 (x::xs)=x::splice l 0 xs:=by simp[splice]
theorem z2wa (l:List z0a):splice l 0 []=l:=by simp[splice]
theorem z1Yd {a b:List UInt8} (h:b.length=a.length) (r s:List z0a):splice (bys a++r) 0 (bys b++s)=bys b++splice r 0 s:=by
 have h1:(bys b).length=(bys a).length:=by simpa using h
 simp only[splice,List.take_zero,List.nil_append,Nat.zero_add,List.length_append,h1,←List.drop_drop,List.drop_left,List.append_assoc]
theorem tk_b {d:List UInt8} (h:d.length=16) (r:List z0a):(bys d++r).take 16=bys d:=by
 rw[List.take_append_of_le_length (by simp[h]),List.take_of_length_le (by simp[h])]
theorem z8ie {d:List UInt8} (h:d.length=16) (x y:z0a):(bys d++[x,y]).take 18=bys d++[x,y]:=List.take_of_length_le (by simp[h])
theorem z18d {d:List UInt8} (h:d.length=16):(bys d).take 16=bys d:=List.take_of_length_le (by simp[h])
theorem dr_b {d:List UInt8} (h:d.length=16) (r:List z0a):(bys d++r).drop 16=r:=List.drop_left' (by simp[h])
theorem z0od (l:List UInt8):(∀c∈bys l,z8a c)=True:=eq_true fun c hc=>by
 simp only[bys,List.mem_map] at hc
 obtain⟨x,_,rfl⟩:=hc
 trivial
theorem z4ie (l:List UInt8):(∀c∈bys l,z5b c=false)=True:=eq_true fun c hc=>by
 simp only[bys,List.mem_map] at hc
 obtain⟨x,_,rfl⟩:=hc
 rfl
@[simp] theorem z8Pd (l:List z3P):z8b (z0Ca l)=true:=by
 refine(z4i _).2 fun c hc=> ?_
 obtain⟨m,_,h⟩:=List.mem_flatMap.1 hc
 rcases List.mem_append.1 h with h|h
 ·simp only[List.mem_cons,List.not_mem_nil,or_false] at h
  rcases h with rfl|rfl|rfl|rfl|rfl|rfl|rfl|rfl<;>rfl
 ·simp only[bys,List.mem_map] at h
  obtain⟨x,_,rfl⟩:=h
  rfl
theorem z5Vb {m:z3P}:∀c∈z5Ma m,z0b c=true∧z8a c:=by
 intro c hc
 rcases List.mem_append.1 hc with h|h
 ·simp only[List.mem_cons,List.not_mem_nil,or_false] at h
  rcases h with rfl|rfl|rfl|rfl|rfl|rfl|rfl|rfl<;>exact⟨rfl,trivial⟩
 ·simp only[bys,List.mem_map] at h
  obtain⟨x,_,rfl⟩:=h
  exact⟨rfl,trivial⟩
@[simp] theorem z6Vc (nc nm ng:Option Bool) (x:z2n):z8b (z7va nc nm ng x)=true:=by simp[z7va,z49a]
/-! ### an entry's cells, by name -/
@[simp] theorem z8jd (nc nm ng:Option Bool) (x:z2n):hdA (z7va nc nm ng x)=i64 x.time:=rfl
@[simp] theorem ent_1 (nc nm ng:Option Bool) (x:z2n):hdA ((z7va nc nm ng x).drop 1)=i64 x.kind:=rfl
@[simp] theorem ent_1t (nc nm ng:Option Bool) (x:z2n):hdA (z7va nc nm ng x).tail=i64 x.kind:=rfl
@[simp] theorem ent_2 (nc nm ng:Option Bool) (x:z2n):hdA ((z7va nc nm ng x).drop 2)=i64 x.req:=rfl
@[simp] theorem ent_3 (nc nm ng:Option Bool) (x:z2n):hdA ((z7va nc nm ng x).drop 3)=i64 x.mode:=rfl
@[simp] theorem ent_4 (nc nm ng:Option Bool) (x:z2n):hdA ((z7va nc nm ng x).drop 4)=i64 x.cmd.kind:=rfl
@[simp] theorem ent_5 (nc nm ng:Option Bool) (x:z2n):hdA ((z7va nc nm ng x).drop 5)=i64 x.cmd.key:=rfl
@[simp] theorem ent_10 (nc nm ng:Option Bool) (x:z2n):hdA ((z7va nc nm ng x).drop 10)=st x.cmd.data:=rfl
@[simp] theorem z5fe (nc nm ng:Option Bool) (x:z2n):((z7va nc nm ng x).drop 4).take 8=z49a x.cmd nc:=rfl
theorem z73c (nc nm ng:Option Bool) (x:z2n):(z7va nc nm ng x).drop 12=bys x.dig++[.sl .plain nm x.made.length (z0Ca x.made),.sl .plain ng x.gone.length (z1Aa x.gone)]:=by
 rw[show z7va nc nm ng x=([i64 x.time,i64 x.kind,i64 x.req,i64 x.mode]++z49a x.cmd nc)++(bys x.dig++[.sl .plain nm x.made.length (z0Ca x.made),.sl .plain ng x.gone.length (z1Aa x.gone)]) by simp[z7va]]
 exact List.drop_left' rfl
theorem z3Eb {nc nm ng:Option Bool} {x:z2n} (h:x.dig.length=16):((z7va nc nm ng x).drop 12).take 16=bys x.dig:=by rw[z73c,tk_b h]
theorem z6Rc {nc nm ng:Option Bool} {x:z2n} (h:x.dig.length=16):(z7va nc nm ng x).drop 28=[.sl .plain nm x.made.length (z0Ca x.made),.sl .plain ng x.gone.length (z1Aa x.gone)]:=by
 rw[show 28=12+16 by rfl,←List.drop_drop,z73c,dr_b h]
theorem z6Ib {nc nm ng:Option Bool} {x:z2n} (h:x.dig.length=16):hdA ((z7va nc nm ng x).drop 28)= .sl .plain nm x.made.length (z0Ca x.made):=by rw[z6Rc h];rfl
theorem z1Ib {nc nm ng:Option Bool} {x:z2n} (h:x.dig.length=16):hdA ((z7va nc nm ng x).drop 29)= .sl .plain ng x.gone.length (z1Aa x.gone):=by
 rw[show 29=28+1 by rfl,←List.drop_drop,z6Rc h];rfl
theorem z4Pc {nc nm ng:Option Bool} {x:z2n} (h:x.dig.length=16):(z7va nc nm ng x).take 30=z7va nc nm ng x:=List.take_of_length_le (by rw[z5Oa h];exact Nat.le_refl _)
theorem z2yc {nc nm ng:Option Bool} {x:z2n}:∀c∈z7va nc nm ng x,z8a c∧z5b c=false:=by
 intro c hc
 simp only[z7va,z49a,List.mem_append,List.mem_cons,List.not_mem_nil,or_false,bys,List.mem_map] at hc
 rcases hc with(((h|h|h|h)|(h|h|h|h|h|h|h|h))|⟨u,_,h⟩)|(h|h)<;>subst h<;>exact⟨trivial,rfl⟩
@[simp] theorem z8ae (nc nm ng:Option Bool) (x:z2n):(∀c∈z7va nc nm ng x,z8a c)=True:=eq_true fun c hc=>(z2yc c hc).1
@[simp] theorem z2he (nc nm ng:Option Bool) (x:z2n):(∀c∈z7va nc nm ng x,z5b c=false)=True:=eq_true fun c hc=>(z2yc c hc).2
@[simp] theorem z6Nd (l:List z3P):z6b (z0Ca l)=[]:=by
 induction l with
 |nil=>rfl
 |cons a l ih=>
  rw[z0Ca] at ih⊢
  rw[List.flatMap_cons,z2h,ih]
  simp[z5Ma,z6b]
@[simp] theorem z85d (nc nm ng:Option Bool) (x:z2n):z6b (z7va nc nm ng x)=[]:=by simp[z7va,z49a,z6b]
@[simp] theorem z6ee:z8Rd.length=16:=rfl
end Go.Abs
end

section
namespace Go.Abs
/-! ### Lists of digests -/
def z9n (l:List (List UInt8)):Prop:=∀d∈l,d.length=16
def dgs (l:List (List UInt8)):List UInt8:=l.flatten
@[simp] theorem z0wc:dgs []=[]:=rfl
@[simp] theorem z43a (d:List UInt8) (l:List (List UInt8)):dgs (d::l)=d++dgs l:=rfl
@[simp] theorem z4Mb (a b:List (List UInt8)):dgs (a++b)=dgs a++dgs b:=by simp[dgs]
theorem z6z:z9n []:=fun _ h=>by cases h
theorem z1u {d:List UInt8} {l:List (List UInt8)}:z9n (d::l)↔d.length=16∧z9n l:=by
 simp[z9n]
theorem z3y {a b:List (List UInt8)}:z9n (a++b)↔z9n a∧z9n b:=by
 simp only[z9n,List.mem_append]
 exact⟨fun h=>⟨fun d hd=>h d (.inl hd),fun d hd=>h d (.inr hd)⟩,fun h d hd=>hd.elim (h.1 d) (h.2 d)⟩
theorem z4v {l:List (List UInt8)} (h:z9n l) (n:Nat):z9n (l.take n):=fun d hd=>h d (List.mem_of_mem_take hd)
theorem z44a {l:List (List UInt8)} (h:z9n l) (n:Nat):z9n (l.drop n):=fun d hd=>h d (List.mem_of_mem_drop hd)
theorem z2ua:∀{l:List (List UInt8)},z9n l→(dgs l).length=l.length*16
 |[],_=>rfl
 |d::l,h=>by
  obtain⟨h1,h2⟩:=z1u.1 h
  rw[z43a,List.length_append,h1,z2ua h2,List.length_cons];omega
theorem z7Ab:∀{l:List (List UInt8)},z9n l→∀n,(dgs l).drop (n*16)=dgs (l.drop n)
 |[],_,n=>by simp
 |d::l,h,0=>by simp
 |d::l,h,n+1=>by
  obtain⟨h1,h2⟩:=z1u.1 h
  rw[z43a,List.drop_succ_cons,←z7Ab h2 n,List.drop_append,List.drop_of_length_le (by omega),List.nil_append]
  congr 1;omega
theorem z63a:∀{l:List (List UInt8)},z9n l→∀n,(dgs l).take (n*16)=dgs (l.take n)
 |[],_,n=>by simp
 |d::l,h,0=>by simp
 |d::l,h,n+1=>by
  obtain⟨h1,h2⟩:=z1u.1 h
  rw[z43a,List.take_succ_cons,z43a,←z63a h2 n,List.take_append,List.take_of_length_le (by omega)]
  congr 2;omega
def z2zc:Nat→List UInt8→List (List UInt8)
 |0,_=>[]
 |n+1,b=>b.take 16::z2zc n (b.drop 16)
theorem z2qc:∀{l:List (List UInt8)},z9n l→z2zc l.length (dgs l)=l
 |[],_=>rfl
 |d::l,h=>by
  obtain⟨h1,h2⟩:=z1u.1 h
  rw[List.length_cons,z2zc,z43a,←h1,List.take_left,List.drop_left,z2qc h2]
def gDs (d:z0a):List (List UInt8):=match d with| .sl _ _ n cs=>z2zc n (gBs cs)|_=>[]
theorem z1Ea {m:z5r} {nl:Option Bool} {l:List (List UInt8)} (h:z9n l):gDs (.sl m nl l.length (bys (dgs l)))=l:=by
 simp only[gDs]
 rw[show gBs (bys (dgs l))=dgs l by simp]
 exact z2qc h
def z5la (l:List (List UInt8)) (i:Nat):List UInt8:=l.getD i []
theorem z4Ga {l:List (List UInt8)} (h:z9n l) {i:Nat} (hi:i<l.length):(z5la l i).length=16:=by
 simp only[z5la,List.getD,List.getElem?_eq_getElem hi,Option.getD_some]
 exact h _ (List.getElem_mem hi)
theorem z8cb {l:List (List UInt8)} (h:z9n l) {i:Nat} (hi:i<l.length):((dgs l).drop (i*16)).take 16=z5la l i:=by
 rw[z7Ab h,List.drop_eq_getElem_cons hi,z43a]
 have:(l[i]).length=16:=h _ (List.getElem_mem hi)
 rw[←this,List.take_left]
 simp[z5la,List.getD,List.getElem?_eq_getElem hi]

/-! ### Powers of two -/
def spl (n:Nat):Nat:=2^Nat.log2 (n-1)
theorem z5v (n:Nat):1≤spl n:=Nat.one_le_two_pow
theorem z1H {n:Nat} (h:2≤n):spl n<n:=by
 have:=Nat.log2_self_le (n:=n-1) (by omega)
 unfold spl;omega
theorem z5pb {n:Nat} (h:2≤n):n≤2*spl n:=by
 have h1:n-1<2^(Nat.log2 (n-1)+1):=Nat.lt_log2_self
 rw[Nat.pow_succ] at h1
 unfold spl;omega
theorem z5Bc {a b n:Nat} (h1:2^a<n) (h2:n≤2*2^a) (h3:2^b<n) (h4:n≤2*2^b):a=b:=by
 rcases Nat.lt_trichotomy a b with h|h|h
 ·have:=Nat.pow_le_pow_right (n:=2) (by decide) (show a+1≤b from h)
  rw[Nat.pow_succ] at this;omega
 ·exact h
 ·have:=Nat.pow_le_pow_right (n:=2) (by decide) (show b+1≤a from h)
  rw[Nat.pow_succ] at this;omega
def z4gc (n:Nat):Nat:=if n=0 then 0 else Nat.log2 n+1
theorem z9bd {n k:Nat} (h1:2^k≤n) (h2:n<2^(k+1)):z4gc n=k+1:=by
 have h0:n≠0:=by have:=Nat.one_le_two_pow (n:=k);omega
 rw[z4gc,if_neg h0]
 have a1:=Nat.log2_self_le h0
 have a2:n<2^(Nat.log2 n+1):=Nat.lt_log2_self
 rcases Nat.lt_trichotomy (Nat.log2 n) k with h|h|h
 ·have:=Nat.pow_le_pow_right (n:=2) (by decide) (show Nat.log2 n+1≤k from h);omega
 ·rw[h]
 ·have:=Nat.pow_le_pow_right (n:=2) (by decide) (show k+1≤Nat.log2 n from h);omega

/-! ### Trees -/
def z5Db (b:List UInt8):List UInt8:=(sha b).take 16
def z9ia (l:List (List UInt8)):List UInt8:=
 if h:2≤l.length then z0f 2 [z9ia (l.take (spl l.length)),z9ia (l.drop (spl l.length))] else z0f 1 l
termination_by l.length
decreasing_by
 ·rw[List.length_take];have:=z1H h;omega
 ·rw[List.length_drop];have:=z5v l.length;omega
theorem z9ac {l:List (List UInt8)} (h:2≤l.length):z9ia l=z0f 2 [z9ia (l.take (spl l.length)),z9ia (l.drop (spl l.length))]:=by rw[z9ia,dif_pos h]
theorem z9Ab {l:List (List UInt8)} (h:¬2≤l.length):z9ia l=z0f 1 l:=by rw[z9ia,dif_neg h]
theorem z0Xa (l:List (List UInt8)):(z9ia l).length=16:=by
 by_cases h:2≤l.length
 ·rw[z9ac h];exact z0e _ _
 ·rw[z9Ab h];exact z0e _ _
end Go.Abs
end

section
namespace Go.Abs
def z5Aa (nl:Option Bool) (l:List (List UInt8)):z0a:= .sl .plain nl l.length (bys (dgs l))
def inM:z1f:=⟨fun ds=>∃(t:UInt8) (nl:Option Bool) (l:List (List UInt8)),z9n l∧l.length≤1000000∧ds=[u8 t,z5Aa nl l],fun ds=> .sl (.own 1) (some false) ((gU8 (nth ds 0))::(gDs (nth ds 1)).flatMap z2X).length (bys ((gU8 (nth ds 0))::(gDs (nth ds 1)).flatMap z2X))⟩
theorem z1uc {t:UInt8} {nl:Option Bool} {l:List (List UInt8)} {n:Nat} {b:List UInt8} (h:z9n l) (hl:l.length≤1000000) (hn:n=l.length) (hb:b=dgs l):inM.pre [u8 t,.sl .plain nl n (bys b)]=True:=eq_true ⟨t,nl,l,h,hl,by rw[hn,hb];rfl⟩
theorem z0Vb {t:UInt8} {nl:Option Bool} {l:List (List UInt8)} (h:z9n l):inM.post [u8 t,.sl .plain nl l.length (bys (dgs l))]= .sl (.own 1) (some false) (t::l.flatMap z2X).length (bys (t::l.flatMap z2X)):=by
 simp only[inM,nth]
 rw[show([u8 t,z0a.sl .plain nl l.length (bys (dgs l))].getD 1 .undef)=z0a.sl .plain nl l.length (bys (dgs l)) from rfl,z1Ea h]
 simp
def shM:z1f:=⟨fun ds=>∃(nl:Option Bool) (b:List UInt8),b.length≤1000000000∧ds=[.sl .plain nl b.length (bys b)],fun ds=> .agg (bys (z5Db (gBs (gCs (nth ds 0)))))⟩
theorem z2mb {nl:Option Bool} {n:Nat} {b:List UInt8} (h:b.length≤1000000000) (hn:n=b.length):shM.pre [.sl .plain nl n (bys b)]=True:=eq_true ⟨nl,b,h,by rw[hn]⟩
@[simp] theorem z7Ac (m:z5r) (nl:Option Bool) (n:Nat) (b:List UInt8):shM.post [.sl m nl n (bys b)]= .agg (bys (z5Db b)):=by simp[shM]
def z5Wb:z1f:=⟨fun ds=>∃d:List UInt8,d.length=16∧ds=[.agg (bys d)],fun ds=> .sl (.own 1) (some false) (z4ga 1 [gBs (gCs (nth ds 0))]).length (bys (z4ga 1 [gBs (gCs (nth ds 0))]))⟩
def z4Rb:z1f:=⟨fun ds=>∃a b:List UInt8,a.length=16∧b.length=16∧ds=[.agg (bys a),.agg (bys b)],fun ds=> .sl (.own 1) (some false) (z4ga 2 [gBs (gCs (nth ds 0)),gBs (gCs (nth ds 1))]).length (bys (z4ga 2 [gBs (gCs (nth ds 0)),gBs (gCs (nth ds 1))]))⟩
theorem z9Xb {d:List UInt8} (h:d.length=16):z5Wb.pre [.agg (bys d)]=True:=eq_true ⟨d,h,rfl⟩
theorem z82b {a b:List UInt8} (ha:a.length=16) (hb:b.length=16):z4Rb.pre [.agg (bys a),.agg (bys b)]=True:=eq_true ⟨a,b,ha,hb,rfl⟩
@[simp] theorem z6Mc (d:List UInt8):z5Wb.post [.agg (bys d)]= .sl (.own 1) (some false) (z4ga 1 [d]).length (bys (z4ga 1 [d])):=by simp[z5Wb]
@[simp] theorem z8Lc (a b:List UInt8):z4Rb.post [.agg (bys a),.agg (bys b)]= .sl (.own 1) (some false) (z4ga 2 [a,b]).length (bys (z4ga 2 [a,b])):=by simp[z4Rb,nth]
def z4Ac:z1f:=⟨fun ds=>∃n:Nat,2≤n∧n≤9223372036854775807∧ds=[i64 n],fun ds=>i64 (spl (asI (nth ds 0)).toNat)⟩
theorem z8ac {n:Nat} (h:2≤n) (h':n≤9223372036854775807):z4Ac.pre [i64 n]=True:=eq_true ⟨n,h,h',rfl⟩
@[simp] theorem z2Yb (n:Nat):z4Ac.post [i64 n]=i64 (spl n):=by simp[z4Ac]
def z6Nc:z1f:=⟨fun ds=>∃x:UInt64,ds=[u64 x],fun ds=>i64 (z4gc (asI (nth ds 0)).toNat)⟩
@[simp] theorem z2ce (x:UInt64):z6Nc.pre [u64 x]=True:=eq_true ⟨x,rfl⟩
@[simp] theorem z7nc (x:UInt64):z6Nc.post [u64 x]=i64 (z4gc x.toNat):=by
 show i64 (z4gc ((x.toNat:Int)).toNat)=_
 rw[Int.toNat_natCast]
def z2Ua:z1f:=⟨fun ds=>∃(nl:Option Bool) (l:List (List UInt8)),z9n l∧l.length≤1000000∧ds=[z5Aa nl l],fun ds=> .agg (bys (z9ia (gDs (nth ds 0))))⟩
theorem z2db {nl:Option Bool} {n:Nat} {l:List (List UInt8)} {b:List UInt8} (h:z9n l) (hl:l.length≤1000000) (hn:n=l.length) (hb:b=dgs l):z2Ua.pre [.sl .plain nl n (bys b)]=True:=eq_true ⟨nl,l,h,hl,by rw[hn,hb];rfl⟩
theorem z6Oa {nl:Option Bool} {n:Nat} {l:List (List UInt8)} {b:List UInt8} (h:z9n l) (hn:n=l.length) (hb:b=dgs l):z2Ua.post [.sl .plain nl n (bys b)]= .agg (bys (z9ia l)):=by
 simp only[z2Ua]
 rw[hn,hb,show nth [z0a.sl .plain nl l.length (bys (dgs l))] 0=z0a.sl .plain nl l.length (bys (dgs l)) from rfl,z1Ea h]
/-! ### Turning round -/
end Go.Abs
end
