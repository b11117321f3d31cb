/- Lemmas: an abstract interpreter, and what the functions compute. -/
import Derived.Test.YtepddcbbkhdfiaaGreatDoorI
import Derived.Test.YtepddcbbkhdfiaaGreatDoorG
import Derived.Test.YtepddcbbkhdfiaaGreatDoorJ
import Derived.Test.YtepddcbbkhdfiaaGreatDoorL
import Derived.Test.YtepddcbbkhdfiaaGreatDoorK
import Derived.Test.YtepddcbbkhdfiaaGreatDoorH
import Derived.KernelRfl
set_option linter.unusedSimpArgs false
set_option linter.unusedVariables false
set_option linter.unusedSectionVars false
section
namespace Go.Abs
set_option maxRecDepth 100000
def z4va:z1ka:=
 {n:=1,wr:=[],res:=[.t 2],body:=YR [1] [.norm [1]] [Yx 1 1 3 0,Yc 2 0] (YR [2] [.norm [1]] [Yf 3 0 1,Yf 4 0 3,Yl 5 1 4,Yf 6 2 1,Yl 7 1 6,Yn 8 7,Yb 9 .add 5 8,Ym 2 9] .ret)}
def z4Ha:z1c:=
 Yq (.block 1 (YR [2,3,5,46] [.norm [2,3]] [Yf 35 2 2,Yl 36 2 35,Ym 37 5,Yi 38 1 36 37,Yj 39 38,Yf 40 2 3,Yl 41 3 40,Ym 42 5,Yi 43 1 41 42,Yj 44 43,YK 45 60 39 44,Yo 46 (.un .not (.s 45))] (Yd 46 (Yr [4] [Yw 4 false] .ret) (Yy [2,3,5])))) (Yu [2,3,5] [Ym 33 5,YB 34 .add 33 1,Ym 5 34])
def z3Ba:z1c:=
 Yq (YR [2,3,5,32] [.norm [2,3]] [Ym 28 5,Yf 29 2 2,Yl 30 2 29,Yn 31 30,Yb 32 .lss 28 31] (Yd 32 (Yy [2,3,5]) (YY []))) z4Ha
def z4Sa:z1c:=
 Yr [4] [Yw 4 true] .ret
def z7Sa:z1c:=
 Yq (Yr [2,3,5] [Yc 5 0] (.block 0 (.loop z3Ba))) z4Sa
def z0ra:z1ka:=
 {n:=2,wr:=[],res:=[.t 4],body:=YR [2,3] [.norm [2,3]] [Yx 2 2 3 0,Yx 3 3 3 1,Yw 4 false] (Yq (YR [2,3,27] [.norm [2,3]] [Yf 6 0 2,Yl 7 2 6,Yf 8 0 3,Yl 9 3 8,Yb 10 .neq 7 9,Ym 11 10,Yg 11 (Yf 12 2 2),Yg 11 (Yl 13 2 12),Yg 11 (Yn 14 13),Yg 11 (Yf 15 2 3),Yg 11 (Yl 16 3 15),Yg 11 (Yn 17 16),Yg 11 (Yb 18 .neq 14 17),YP 19 11 18,Ym 20 19,Yg 20 (Yf 21 1 2),Yg 20 (Yl 22 2 21),Yg 20 (Yf 23 1 3),Yg 20 (Yl 24 3 23),Yg 20 (YK 25 376 22 24),Yg 20 (Yo 26 (.un .not (.s 25))),YP 27 20 26] (Yd 27 (Yr [4] [Yw 4 false] .ret) (Yy [2,3]))) z7Sa)}
def z0kb:z1c:=
 Yq (.block 1 (.region [4,6,7,8] [.norm [2,4,7]] [YL 48 2 7 7,Ym 49 6,Ym 50 8,Yi 51 16 49 50,YJ 52 16 51,YK 53 212 48 52,Ym 47 53,Ye 54 0 47,Ye 55 1 47,Ys 2 7 7 54])) (Yu [4,6,7,8] [Ym 45 8,YB 46 .add 45 1,Ym 8 46])
def z2lb:z1c:=
 Yq (Yr [4,6,7,8,44] [Ym 41 8,Ym 42 6,Yn 43 42,Yb 44 .lss 41 43] (Yd 44 (Yy [4,6,7,8]) (YY [4,7]))) z0kb
def z6lb:z1c:=
 YR [4,5] [.norm [2,4,7]] [YL 56 2 7 7,Ys 2 4 4 56,Yc 5 0] .ret
def z1lb:z1c:=
 YR [2,4,6] [.norm [2,4]] [Yf 21 2 2,Yl 22 2 21,Ym 23 1,Yf 24 0 2,Yf 25 0 24,Yl 26 2 25,Yb 27 .sub 23 26,Yo 28 (.slSl 30 (.s 22) none (some (.s 27)) none),Yk 29 382 28,YM 6 29] (YR [2,4,6,7] [.norm [2,4,7],.reB 7 1 (some 16),.norm [2,4,7]] [Yf 30 0 2,Yf 31 0 30,Yl 32 2 31,Yo 33 (.build [i64 0,.sl .plain (some true) 0 []] [(0,1,.s 32)]),Yo 7 (.alloc 7 [i64 0,.sl .plain none 0 []]),Ys 2 7 7 33] (YR [4,6,7] [.norm [2,4,7],.reB 7 1 none,.norm [2,4,7]] [Yf 34 1 7,Yo 35 (.load none (some 7) true (.s 34)),Yf 36 0 2,Yf 37 1 36,Yl 38 2 37,Yo 39 (.append 16 16 false none none 35 (.s 38)),Yf 40 1 7,YO (.store none 7 true (.s 40) (.s 39))] (Yq (Yr [4,6,7,8] [Yc 8 0] (.block 0 (.loop z2lb))) z6lb)))
def z2vb:z1ka:=
 {n:=2,wr:=[],res:=[.cell 4 (some 2) 4,.t 5],body:=YR [2,4] [.norm [2,4]] [Yx 2 2 3 0,Yo 4 (.alloc 4 [i64 0,.sl .plain none 0 []]),Yc 5 0] (Yq (YR [2,4,19] [.norm [2,4]] [Ym 9 1,Yf 10 0 2,Yf 11 0 10,Yl 12 2 11,Yb 13 .lss 9 12,Ym 14 13,Yg 14 (Ym 15 1),Yg 14 (YL 16 3 2 2),Yg 14 (Yk 17 375 16),Yg 14 (Yb 18 .gtr 15 17),YP 19 14 18] (Yd 19 (YR [4,5] [.norm [2,4]] [Yo 20 (.build [i64 0,.sl .plain none 0 []] []),Ys 2 4 4 20,Yc 5 11] .ret) (Yy [2,4]))) z1lb)}
def z0yb:z1ka:=
 {n:=1,wr:=[],res:=[.cell 2 (some 16) 2],body:=YR [1,2] [.norm [1,2]] [Yx 1 1 3 0,Yz 2 2 16] (YR [2,3] [.norm [1,2,3]] [YL 8 3 1 1,YL 9 3 1 1,Yk 10 375 9,YK 11 379 8 10,Ym 7 11,Ye 12 0 7,Ye 13 1 7,Yo 3 (.alloc 3 [i64 0,.sl .plain none 0 []]),Ys 2 3 3 12,Ym 4 13] (YR [2,5] [.norm [1,2,3,5]] [YL 15 2 3 3,Yk 16 213 15,Ym 14 16,Ye 17 0 14,Ye 18 1 14,Yz 5 5 16,Ys 16 5 5 17,Ym 6 18] (YR [2] [.norm [1,2,3,5]] [YL 19 16 5 5,Ys 16 2 2 19] .ret)))}
def z9ya:z1c:=
 Yq (.block 1 (Yr [5,6] [Ym 18 0,Ym 19 5,Yi 20 30 18 19,YJ 21 30 20,Ym 22 1,Ym 23 5,Yi 24 30 22 23,YJ 25 30 24,YK 26 329 21 25,Ym 6 26] (Yr [5,28] [Ym 27 6,Yo 28 (.un .not (.s 27))] (Yd 28 (Yr [4] [Yw 4 false] .ret) (Yy [5]))))) (Yu [5] [Ym 16 5,YB 17 .add 16 1,Ym 5 17])
def z1va:z1c:=
 Yq (Yr [5,15] [Ym 12 5,Ym 13 0,Yn 14 13,Yb 15 .lss 12 14] (Yd 15 (Yy [5]) (YY []))) z9ya
def z2Ga:z1c:=
 Yr [4] [Yw 4 true] .ret
def z9Ga:z1c:=
 Yq (Yr [5] [Yc 5 0] (.block 0 (.loop z1va))) z2Ga
def z4qa:z1ka:=
 {n:=2,wr:=[],res:=[.t 4],body:=Yr [] [Yw 4 false] (Yq (Yr [11] [Ym 7 0,Yn 8 7,Ym 9 1,Yn 10 9,Yb 11 .neq 8 10] (Yd 11 (Yr [4] [Yw 4 false] .ret) (Yy []))) z9Ga)}
def z2db:z1c:=
 Yq (.block 1 (Yu [3,4] [YM 11 3,Ym 12 0,Ym 13 4,Yi 14 30 12 13,YJ 15 30 14,Yk 16 334 15,Yo 17 (.buildSl 16 1 (bys (z5j 16)) [(0,16,.s 16)]),Yo 18 (.append 16 16 false none none 11 (.s 17)),YM 3 18])) (Yu [3,4] [Ym 9 4,YB 10 .add 9 1,Ym 4 10])
def z0cb:z1c:=
 Yq (Yr [3,4,8] [Ym 5 4,Ym 6 0,Yn 7 6,Yb 8 .lss 5 7] (Yd 8 (Yy [3,4]) (YY [3]))) z2db
def z8cb:z1c:=
 Yr [2] [YM 19 3,YM 2 19] .ret
def z8nb:z1ka:=
 {n:=1,wr:=[],res:=[.t 2],body:=Yr [] [Yo 2 (.mv true (.c (.sl (.own 16) none 0 [])))] (Yr [3] [Yo 3 (.mv true (.c (.sl (.own 16) none 0 [])))] (Yq (Yr [3,4] [Yc 4 0] (.block 0 (.loop z0cb))) z8cb))}
end Go.Abs
end

section
namespace Go.Abs
@[simp] theorem z0ae (ps:List (Bool×Option Bool×List UInt8)):(mls ps).length=ps.length:=by simp[mls]
def atP (ps:List (Bool×Option Bool×List UInt8)) (i:Nat):Bool×Option Bool×List UInt8:=ps.getD i (true,none,[])
theorem z5Nc {ps:List (Bool×Option Bool×List UInt8)} {i:Nat} (h:i<ps.length):atP ps i=ps[i]:=by simp[atP,List.getD,List.getElem?_eq_getElem h]
@[simp] theorem z07d (b:Bool) (nl:Option Bool) (n:Nat) (cs:List z0a):dem (.sl (mdA b) nl n cs)= .sl .plain nl n cs:=by cases b<;>rfl
theorem z2id {ps:List (Bool×Option Bool×List UInt8)} {i:Nat} (h:i<ps.length):hdA ((mls ps).drop i)= .sl (mdA (atP ps i).1) (atP ps i).2.1 (atP ps i).2.2.length (bys (atP ps i).2.2):=by
 rw[mls,←List.map_drop,List.drop_eq_getElem_cons h,List.map_cons,z5Nc h]
 rfl
def z78b (ps:List (Bool×Option Bool×List UInt8)):Nat:=(ps.map fun p=>p.2.2.length).sum
theorem z7Ed (ps:List (Bool×Option Bool×List UInt8)):z9ed (ps.map (·.2))=z78b ps:=by rw[z9ed,z78b,List.map_map];rfl
theorem z8uc (a b:List (Bool×Option Bool×List UInt8)):z78b (a++b)=z78b a+z78b b:=by
 induction a with
 |nil=>simp[z78b]
 |cons x a ih=>simp only[z78b,List.cons_append,List.map_cons,List.sum_cons] at ih⊢;omega
theorem z4Yb {ps:List (Bool×Option Bool×List UInt8)} {i:Nat} (h:i<ps.length):z78b (ps.take (i+1))=z78b (ps.take i)+(atP ps i).2.2.length:=by
 rw[List.take_succ_eq_append_getElem h,z8uc,z5Nc h]
 rfl
theorem z3ab (ps:List (Bool×Option Bool×List UInt8)) (i:Nat):z78b (ps.take i)≤z78b ps:=by
 have:=z8uc (ps.take i) (ps.drop i)
 rw[List.take_append_drop] at this
 omega
theorem z25b {ps:List (Bool×Option Bool×List UInt8)} {i:Nat} (h:i<ps.length):(ps.take (i+1)).flatMap (·.2.2)=(ps.take i).flatMap (·.2.2)++(atP ps i).2.2:=by
 rw[List.take_succ_eq_append_getElem h,List.flatMap_append,List.flatMap_cons,List.flatMap_nil,List.append_nil,z5Nc h]
theorem z5zd (ps:List (Bool×Option Bool×List UInt8)):(ps.flatMap (·.2.2)).length=z78b ps:=by simp[z78b,List.length_flatMap]
theorem z1Mc (E:Env) (h139:E.G 139=z5dc):∀ds,z3Ja.pre ds→ds.length=z3Aa.n∧awp E z3Aa.body (z4xa z3Aa.res (z3Ja.post ds)) (z4H z3Aa.wr ds):=by
 rintro _ ⟨nl,ps,ht,hps,rfl⟩
 rw[z0rb]
 rw[z7Ed] at ht
 simp(maxSteps:=1000000) (disch:=first|omega|(simp;done)|(simp;omega)) [z6G,z8pa,z7pa,z3Aa,z38a,z39a]
 refine z1g fun Q0 hQ0=> ?_
 simp(maxSteps:=1000000) (disch:=first|omega|(simp;done)|(simp;omega)) [z6G,z8pa,z7pa,z8ab]
 refine z1v (fun i:Nat=>⟨[(0,.sl .plain nl ps.length (mls ps))],[(3,i64 (z78b (ps.take i):Nat)),(9,.sl .plain nl ps.length (mls ps)),(10,i64 ps.length),(11,i64 i)],[]⟩)
  (fun i=>ps.length-i) (fun i=>i≤ps.length) 0 (by simp[z78b]) (by simp) fun i hi=> ?_
 refine z1g fun Q1 hQ1=> ?_
 have tl:=z3ab ps i
 by_cases h1:i<ps.length
 ·have ts:=z4Yb h1
  have tl':=z3ab ps (i+1)
  generalize hX:atP ps i=x at*
  obtain⟨xm,xn,xb⟩:=x
  simp only at ts
  have hneg:¬((z78b (ps.take i):Int)+xb.length<0):=by omega
  simp(maxSteps:=1000000) (disch:=first|omega|(simp;done)|(simp;omega)) [z6G,z8pa,z7pa,z1Qa,z7Pa,z5ab,z48a,z1ab,z98a,kT,kF,dT,dF,h1,z2id,hX,hQ1,hneg]
  exact⟨by omega,i+1,by omega,by omega,by omega,by omega⟩
 ·obtain rfl:i=ps.length:=by omega
  simp(maxSteps:=1000000) (disch:=first|omega|(simp;done)|(simp;omega)) [z6G,z8pa,z7pa,z1Qa,z7Pa,kT,kF,dT,dF,hQ1,hQ0,z99a,z58a,z56a,h139,z2dd]
  refine z1v (fun i:Nat=>⟨[(0,.sl .plain nl ps.length (mls ps))],[(6,.sl (.own 1) none ((ps.take i).flatMap (·.2.2)).length (bys ((ps.take i).flatMap (·.2.2)))),(25,.sl .plain nl ps.length (mls ps)),(26,i64 ps.length),(27,i64 i)],[]⟩)
   (fun i=>ps.length-i) (fun i=>i≤ps.length) 0 (by simp) (by simp) fun i hi=> ?_
  refine z1g fun Q2 hQ2=> ?_
  have tl:=z3ab ps i
  by_cases h1:i<ps.length
  ·have cs:=z25b h1
   have cl:=z5zd (ps.take (i+1))
   have tl':=z3ab ps (i+1)
   generalize hX:atP ps i=x at*
   obtain⟨xm,xn,xb⟩:=x
   simp only at cs
   generalize hF:(ps.take i).flatMap (·.2.2)=F at*
   simp(maxSteps:=1000000) (disch:=first|omega|(simp;done)|(simp;omega)) [z6G,z8pa,z7pa,z4Qa,z5La,z66a,z04a,kT,kF,dT,dF,h1,z2id,hX,hQ2]
   have e:z78b (ps.take (i+1))=(List.take (i+1) (List.map (fun a=>a.2.2.length) ps)).sum:=by rw[z78b,List.map_take]
   rw[cs,List.length_append] at cl
   exact⟨by omega,by omega,i+1,by omega,by omega,⟨by rw[←e];exact cl,cs.symm⟩,by omega⟩
  ·obtain rfl:i=ps.length:=by omega
   simp(maxSteps:=1000000) (disch:=first|omega|(simp;done)|(simp;omega)) [z6G,z8pa,z7pa,z4Qa,z5La,kT,kF,dT,dF,hQ2,z06a]
end Go.Abs
end

section
namespace Go.Abs
set_option maxRecDepth 100000
def atD (l:List z3P) (i:Nat):z3P:=l.getD i mad0
theorem z26b {l:List z3P} {i:Nat} (h:i<l.length):atD l i=l[i]:=by simp[atD,List.getD,List.getElem?_eq_getElem h]
theorem z5rc {l:List z3P} {i:Nat} (h:i<l.length):atD l i∈l:=by rw[z26b h];exact List.getElem_mem h
theorem z1ed {l:List z3P} (h:z01a l) {i:Nat} (hi:i<l.length):((z5za l).drop (i*24)).take 24=z7Ka (atD l i):=by
 have e1:=z7kb (enc:=z7Ka) (P:=z2oc) (w:=24) (fun a ha=>z0Ka ha) l i (z0Ba h)
 have hd:=z0Ba h _ (List.getElem_mem hi)
 rw[show z5za l=l.flatMap z7Ka from rfl,e1,List.drop_eq_getElem_cons hi,List.flatMap_cons,List.take_left' (z0Ka hd),z26b hi]
/-! ### a key's cells, by name -/
@[simp] theorem mad_0 (m:z3P):hdA (z7Ka m)=i64 m.id:=rfl
@[simp] theorem mad_1 (m:z3P):hdA ((z7Ka m).drop 1)=i64 m.ty:=rfl
@[simp] theorem mad_1t (m:z3P):hdA (z7Ka m).tail=i64 m.ty:=rfl
@[simp] theorem mad_2 (m:z3P):hdA ((z7Ka m).drop 2)=i64 m.uses:=rfl
@[simp] theorem mad_3 (m:z3P):hdA ((z7Ka m).drop 3)=i64 m.beg:=rfl
@[simp] theorem mad_4 (m:z3P):hdA ((z7Ka m).drop 4)=i64 m.fin:=rfl
@[simp] theorem mad_5 (m:z3P):hdA ((z7Ka m).drop 5)=i64 m.ver:=rfl
@[simp] theorem mad_6 (m:z3P):hdA ((z7Ka m).drop 6)=i64 m.par:=rfl
@[simp] theorem mad_7 (m:z3P):hdA ((z7Ka m).drop 7)=bo m.raw:=rfl
@[simp] theorem mad_8 (m:z3P):(z7Ka m).drop 8=bys m.dig:=rfl
theorem z5Nb (m:z3P):(∀c∈z7Ka m,z8a c)=True:=eq_true fun c hc=>(z8Ob c hc).2
theorem z82b (m:z3P):(∀c∈z7Ka m,z5b c=false)=True:=eq_true fun c hc=>by
 rcases List.mem_append.1 hc with h|h
 ·simp only[List.mem_cons,List.not_mem_nil,or_false] at h
  rcases h with rfl|rfl|rfl|rfl|rfl|rfl|rfl|rfl<;>rfl
 ·simp only[bys,List.mem_map] at h
  obtain⟨x,_,rfl⟩:=h
  rfl
theorem z3Md {m:z3P} (h:m.dig.length=16):(z7Ka m).take 24=z7Ka m:=List.take_of_length_le (by rw[z0Ka h];exact Nat.le_refl _)
theorem z0Oc {m:z3P} (h:m.dig.length=16) {zs:List z0a} (hz:zs.length=24):splice zs 0 (z7Ka m)=z7Ka m:=z0qa (by rw[z0Ka h,hz])
@[simp] theorem z16d (m:z3P):z8b (z7Ka m)=true:=(z4i _).2 fun c hc=>(z8Ob c hc).1
@[simp] theorem z44d (m:z3P):z6b (z7Ka m)=[]:=by simp[z7Ka,z6b]
end Go.Abs
end

section
namespace Go.Abs
/-! ### structs that are built, step by step -/
def z2M (get:Nat→z0a) (n:Nat):z0a:=dem (get n)
@[simp] theorem z3ja (get:Nat→z0a) (n:Nat):z2M get n=dem (get n):=rfl
@[simp ↓ high] theorem z17 (E:Env) (get:Nat→z0a) (getB:Nat→Option (List z0a)) (z:List z0a) (ps:List (Nat×Nat×Arg)):eff E get getB (.build z ps)={val:= .agg (z5g E (z2M get) ps z)}:=rfl
@[simp ↓ high] theorem z78 (E:Env) (get:Nat→z0a) (getB:Nat→Option (List z0a)) (z:List z0a) (ps:List (Nat×Nat×Arg)):okp E get getB (.build z ps)=z1e E (z2M get) ps z.length:=rfl
def z1ga (d dd:z0a) (cs:List z0a) (i s:Nat):Eff:=match d with| .sl (.own e) nl n c=>{val:= .oagg (cs.take i) e nl n c (cs.drop (i+1)),sl:=[(s,dd)]}|_=>{val:= .undef}
@[simp] theorem z2ea (e:Nat) (nl:Option Bool) (n:Nat) (c:List z0a) (dd:z0a) (cs:List z0a) (i s:Nat):z1ga (.sl (.own e) nl n c) dd cs i s={val:= .oagg (cs.take i) e nl n c (cs.drop (i+1)),sl:=[(s,dd)]}:=rfl
@[simp ↓ high] theorem z7ba (E:Env) (get:Nat→z0a) (getB:Nat→Option (List z0a)) (z:List z0a) (ps:List (Nat×Nat×Arg)) (i s:Nat):eff E get getB (.buildO z ps i s)=z1ga (get s) (dem (get s)) (z5g E (z2M get) (ps++[(i,1,.s s)]) z) i s:=by
 simp only[eff,z1ga]
 rfl
@[simp ↓ high] theorem z9da (E:Env) (get:Nat→z0a) (getB:Nat→Option (List z0a)) (z:List z0a) (ps:List (Nat×Nat×Arg)) (i s:Nat):okp E get getB (.buildO z ps i s)=(z1e E (z2M get) (ps++[(i,1,.s s)]) z.length∧(match get s with| .sl (.own _) _ _ _=>True|_=>False)):=rfl
@[simp ↓ high] theorem z7aa (E:Env) (d:Nat) (z:List z0a) (ps:List (Nat×Nat×Arg)) (i s:Nat) (o e:List (Nat×z0a)) (b:List (Nat×Option (List z0a))):okA E ⟨some d,none,.buildO z ps i s⟩ ⟨o,e,b⟩=
  ((lk o d=none∧lk o s=none)∧z1e E (z2M (ASt.get ⟨o,e,b⟩)) (ps++[(i,1,.s s)]) z.length∧(match ASt.get ⟨o,e,b⟩ s with| .sl (.own _) _ _ _=>True|_=>False)):=by
 have h:(∀x∈[d,s],lk o x=none)=(lk o d=none∧lk o s=none):=by simp
 rw[←h];rfl
@[simp ↓ high] theorem z9aa (E:Env) (d:Nat) (z:List z0a) (ps:List (Nat×Nat×Arg)) (o e:List (Nat×z0a)) (b:List (Nat×Option (List z0a))):okA E ⟨some d,none,.build z ps⟩ ⟨o,e,b⟩=
  (lk o d=none∧z1e E (z2M (ASt.get ⟨o,e,b⟩)) ps z.length):=by
 have h:(∀x∈[d],lk o x=none)=(lk o d=none):=by simp
 rw[←h];rfl
def z56c (b:Bool):List Nat→List z6a→Option (List Nat)
 |ks,[]=>some ks
 |ks,⟨some d,some (t,w),op⟩::xs=>if ks.contains t&&(w !=b)&&op.wrS.isEmpty then z56c b (ks.filter (· !=d)) xs else none
 |ks,⟨some d,none,.mv false (.s t)⟩::xs=>if ks.contains t then z56c b (d::ks) xs else none
 |ks,⟨some d,none,.pick (.s t) (.c (.lit (.bool x))) (.s _)⟩::xs=>if ks.contains t&&b&&x then z56c b (d::ks) xs else none
 |ks,⟨some d,none,.pick (.s t) (.s _) (.c (.lit (.bool x)))⟩::xs=>if ks.contains t&& !b&& !x then z56c b (d::ks) xs else none
 |_,_=>none
def wrT (xs:List z6a):List Nat:=xs.flatMap fun o=>o.dst.toList
structure z7zd (b:Bool) (ks:List Nat) (ws:List Nat) (st st':ASt):Prop where
 org:st'.org=st.org
 box:st'.box=st.box
 val:∀s∈ks,st'.get s=bo b
 same:∀s,s∉ws→st'.get s=st.get s
theorem z7cd (o:List (Nat×z0a)) (d:Nat) (v:z0a) (e:List (Nat×z0a)) (b:List (Nat×Option (List z0a))) (s:Nat):ASt.get ⟨o,(d,v)::e,b⟩ s=if s=d then v else ASt.get ⟨o,e,b⟩ s:=by
 by_cases h:s=d
 ·simp only[ASt.get,lk,if_pos h]
 ·simp only[ASt.get,lk,if_neg h]
theorem z2yc (E:Env) (b:Bool):∀(xs:List z6a) (ks ks':List Nat) (st:ASt),z56c b ks xs=some ks'→(∀s∈ks,st.get s=bo b)→(∀s∈wrT xs,lk st.org s=none)→z4t E xs st∧z7zd b ks' (wrT xs) st (z8I E xs st)
 |[],ks,ks',st,hc,hk,_=>by
  simp only[z56c,Option.some.injEq] at hc
  subst hc
  exact⟨trivial,rfl,rfl,hk,fun _ _=>rfl⟩
 |o::xs,ks,ks',st,hc,hk,ho=>by
  have one:∀(d:Nat) (v:z0a) (ks1:List Nat),o.dst=some d→okA E o st→z9a E o st=⟨st.org,(d,v)::st.env,st.box⟩→z56c b ks1 xs=some ks'→(∀s∈ks1,s=d→v=bo b)→(∀s∈ks1,s≠d→s∈ks)→z4t E (o::xs) st∧z7zd b ks' (wrT (o::xs)) st (z8I E (o::xs) st):=by
   intro d v ks1 hd hok hst hc1 h1 h2
   have hg:∀s,ASt.get ⟨st.org,(d,v)::st.env,st.box⟩ s=if s=d then v else st.get s:=fun s=>z7cd _ _ _ _ _ _
   obtain⟨k1,k2⟩:=z2yc E b xs ks1 ks' ⟨st.org,(d,v)::st.env,st.box⟩ hc1 (fun s hs=>by
    rw[hg]
    split
    ·rename_i e;exact h1 s hs e
    ·rename_i e;exact hk s (h2 s hs e)) (fun s hs=>ho s (by simp only[wrT,List.flatMap_cons,List.mem_append];exact .inr hs))
   refine⟨⟨hok,by rw[hst];exact k1⟩,?_⟩
   show z7zd b ks' (wrT (o::xs)) st (z8I E xs (z9a E o st))
   rw[hst]
   refine⟨k2.org,k2.box,k2.val,fun s hs=> ?_⟩
   simp only[wrT,List.flatMap_cons,List.mem_append,not_or] at hs
   rw[k2.same s hs.2,hg,if_neg]
   intro e
   apply hs.1
   rw[hd,e]
   simp
  have hW:∀d,o.dst=some d→o.op.wrS=[]→∀s∈o.W,lk st.org s=none:=fun d hd hw s hs=>by
   apply ho
   simp only[z6a.W,hd,hw,List.append_nil,Option.toList_some,List.mem_singleton] at hs
   simp only[wrT,List.flatMap_cons,List.mem_append,hd,hs]
   exact .inl (by simp)
  unfold z56c at hc
  split at hc
  ·cases xs<;>simp at*
  ·rename_i ks0 d t w op xs0 e
   simp only[List.cons.injEq] at e
   obtain⟨rfl,rfl⟩:=e
   split at hc
   ·rename_i hh
    simp only[Bool.and_eq_true,List.contains_eq_mem,decide_eq_true_eq,bne_iff_ne,List.isEmpty_iff] at hh
    obtain⟨⟨h1,h2⟩,h3⟩:=hh
    have hv:=hk t h1
    have hgate:z3G (st.get t) w=false:=by rw[hv,z3na];exact beq_eq_false_iff_ne.2 (Ne.symm h2)
    refine one d z7j _ rfl ⟨hW d rfl h3,.inl (by rw[hv];trivial),fun e=>by rw[hgate] at e;cases e⟩ ?_ hc ?_ ?_
    ·simp only[z9a,hgate,Bool.false_eq_true,if_false,Option.toList_some,List.map_cons,List.map_nil,List.cons_append,List.nil_append]
    ·intro s hs e
     simp[e] at hs
    ·intro s hs e
     simp only[List.mem_filter] at hs
     exact hs.1
   ·cases hc
  ·rename_i ks0 d t xs0 e
   simp only[List.cons.injEq] at e
   obtain⟨rfl,rfl⟩:=e
   split at hc
   ·rename_i hh
    simp only[List.contains_eq_mem,decide_eq_true_eq] at hh
    have hv:=hk t hh
    refine one d (bo b) _ rfl ⟨hW d rfl rfl,trivial⟩ ?_ hc (fun _ _ _=>rfl) (fun s hs e=>by simpa[e] using hs)
    simp only[z9a,eff,arg,hv,Option.toList_some,List.map_cons,List.map_nil,List.cons_append,List.nil_append]
    rfl
   ·cases hc
  ·rename_i ks0 d t x y xs0 e
   simp only[List.cons.injEq] at e
   obtain⟨rfl,rfl⟩:=e
   split at hc
   ·rename_i hh
    simp only[Bool.and_eq_true,List.contains_eq_mem,decide_eq_true_eq] at hh
    obtain⟨⟨h1,rfl⟩,rfl⟩:=hh
    have hv:=hk t h1
    refine one d (bo true) _ rfl ⟨hW d rfl rfl,?_⟩ ?_ hc (fun _ _ _=>rfl) (fun s hs e=>by simpa[e] using hs)
    ·simp only[okp,arg,hv];trivial
    ·simp only[z9a,eff,arg,hv,Option.toList_some,List.map_cons,List.map_nil,List.cons_append,List.nil_append]
     rfl
   ·cases hc
  ·rename_i ks0 d t y x xs0 e
   simp only[List.cons.injEq] at e
   obtain⟨rfl,rfl⟩:=e
   split at hc
   ·rename_i hh
    simp only[Bool.and_eq_true,List.contains_eq_mem,decide_eq_true_eq,Bool.not_eq_true'] at hh
    obtain⟨⟨h1,rfl⟩,rfl⟩:=hh
    have hv:=hk t h1
    refine one d (bo false) _ rfl ⟨hW d rfl rfl,?_⟩ ?_ hc (fun _ _ _=>rfl) (fun s hs e=>by simpa[e] using hs)
    ·simp only[okp,arg,hv];trivial
    ·simp only[z9a,eff,arg,hv,Option.toList_some,List.map_cons,List.map_nil,List.cons_append,List.nil_append]
     rfl
   ·cases hc
  ·cases hc
theorem z7od (f:Nat→z0a) (keep:List Nat) (o:List (Nat×z0a)) (bx:List (Nat×Option (List z0a))) {x:Nat} (hx:x∈keep):ASt.get ⟨o,keep.map fun x=>(x,f x),bx⟩ x=f x:=by
 have h:=z6sa f x keep
 rw[if_pos hx] at h
 simp only[ASt.get,h]
theorem z8qa {E:Env} {keep:List Nat} {gs:List z0h} {Q:z5c→ASt→Prop} {xs ys:List z6a} {st:ASt} (h:∀T,T=ys→z0R E keep gs Q (xs++T) st):z0R E keep gs Q (xs++ys) st:=h ys rfl
theorem z9Bd (E:Env) (id:Nat) (b:z1c) (Q:z5c→ASt→Prop) (s:ASt):awp E (.block id b) Q s=awp E b (z8v id Q) s:=rfl
theorem z1Wa {E:Env} {Q:z5c→ASt→Prop} {s:ASt} {a b:z1c} (h:∀B,B=b→awp E (.seq a B) Q s):awp E (.seq a b) Q s:=h b rfl
def vdG (b:Bool) (d:Nat) (st:ASt) (x:Nat):z0a:=if x=d then bo b else st.get x
@[simp] theorem vdG_eq (b:Bool) (d:Nat) (st:ASt) (x:Nat):vdG b d st x=if x=d then bo b else st.get x:=rfl
theorem z4fc (f:Nat→z0a):∀l:List Nat,z3n f l=l.map fun s=>(s,f s)
 |[]=>rfl
 |s::l=>by simp only[z3n,List.map_cons,z4fc f l]
theorem z2qa {E:Env} {keep:List Nat} {gs:List z0h} {Q:z5c→ASt→Prop} {xs:List z6a} {o e:List (Nat×z0a)} {bx:List (Nat×Option (List z0a))} (b:Bool) (s d:Nat) (hs:ASt.get ⟨o,e,bx⟩ s=bo b)
  (hc:((z56c b [s] xs).any fun ks=>ks.contains d&&keep.all fun x=>x==d|| !(wrT xs).contains x)=true) (ho:((wrT xs).all fun x=>(lk o x).isNone)=true)
  (h:z0R E keep gs Q [] ⟨o,z3n (vdG b d ⟨o,e,bx⟩) keep,bx⟩):z0R E keep gs Q xs ⟨o,e,bx⟩:=by
 rw[z4fc] at h
 simp only[vdG] at h
 simp only[Option.any_eq_true,Bool.and_eq_true,List.contains_eq_mem,decide_eq_true_eq,List.all_eq_true,Bool.or_eq_true,beq_iff_eq,Bool.not_eq_true',decide_eq_false_iff_not] at hc
 obtain⟨ks,h1,h2,h3⟩:=hc
 simp only[List.all_eq_true,Option.isNone_iff_eq_none] at ho
 obtain⟨k1,k2⟩:=z2yc E b xs [s] ks ⟨o,e,bx⟩ h1 (fun x hx=>by rw[List.mem_singleton.1 hx];exact hs) ho
 rw[z6v] at h⊢
 simp only[z4t,z8I,true_and] at h
 refine⟨k1,?_⟩
 have:z2o keep (z8I E xs ⟨o,e,bx⟩)=z2o keep ⟨o,keep.map fun x=>(x,if x=d then bo b else ASt.get ⟨o,e,bx⟩ x),bx⟩:=by
  unfold z2o
  rw[k2.org,k2.box]
  simp only[ASt.mk.injEq,true_and,and_true]
  refine List.map_congr_left fun x hx=> ?_
  have hg:ASt.get ⟨o,keep.map fun x=>(x,if x=d then bo b else ASt.get ⟨o,e,bx⟩ x),bx⟩ x=if x=d then bo b else ASt.get ⟨o,e,bx⟩ x:=by
   exact z7od _ keep o bx hx
  rw[hg]
  rcases h3 x hx with rfl|h4
  ·rw[if_pos rfl,k2.val x h2]
  ·split
   ·rename_i e;rw[e,k2.val d h2]
   ·rw[k2.same x h4]
 rw[this]
 exact h
end Go.Abs
end

section
namespace Go.Abs
set_option maxRecDepth 100000
def z5md:z1f:=⟨fun ds=>∃m:z3P,m.ok∧ds=[.agg (z7Ka m)],fun ds=>bo (z8tb (z8Ed (gCs (nth ds 0))))⟩
theorem z8ud {m:z3P} (h:m.ok):z5md.pre [.agg (z7Ka m)]=True:=eq_true ⟨m,h,rfl⟩
theorem z2tc (m:z3P):z5md.post [.agg (z7Ka m)]=bo (z8tb m):=by
 show bo (z8tb (z8Ed (z7Ka m)))=_
 rw[z9Sb]
set_option maxHeartbeats 4000000 in
theorem z9Vd (E:Env) (h295:E.G 295=z0jd):∀ds,z5md.pre ds→ds.length=z5Aa.n∧awp E z5Aa.body (z4xa z5Aa.res (z5md.post ds)) (z4H z5Aa.wr ds):=by
 rintro _ ⟨m,hm,rfl⟩
 rw[z2tc]
 have hd:=hm.2.2.2.2.2.2.2
 have hl:=z0Ka hd
 obtain⟨Z,hZ⟩:∃Z,Z=z8tb m:=⟨_,rfl⟩
 rw[←hZ]
 refine⟨rfl,?_⟩
 simp only[z5Aa]
 refine z1g fun Q9 hQ9=> ?_
 refine z1Wa fun B hB=> ?_
 simp(maxSteps:=1000000) (disch:=first|omega|(simp;done)|(simp;omega)) [z6G,z8pa,z7pa,hl,z5Nb,z82b]
 rw[hB];clear hB
 rw[z4ia]
 refine z1g fun Q1 hQ1=> ?_
 rw[z1W]
 refine z8qa fun T hT=> ?_
 simp(maxSteps:=1000000) (disch:=first|omega|(simp;done)|(simp;omega)) [z6G,z8pa,z7pa,z6ab,hl,h295]
 by_cases c1:inR m.id 1 2147483647=true
 rotate_left
 ·refine z2qa false 6 2 (by simp[c1]) (by rw[hT];kernel_rfl) (by rw[hT];kernel_rfl) ?_
  have hz:Z=false:=by rw[hZ];simp[z8tb,z8bc,z4rc,z7Sb,c1]
  simp(maxSteps:=1000000) (disch:=first|omega|(simp;done)|(simp;omega)) [z6G,z8pa,z7pa,hQ1,hQ9,hz]
 rw[hT];clear hT
 refine z8qa fun T hT=> ?_
 simp(maxSteps:=1000000) (disch:=first|omega|(simp;done)|(simp;omega)) [z6G,z8pa,z7pa,z29a,hl,h295,c1]
 by_cases c2:inR m.ver 1 2147483647=true
 rotate_left
 ·refine z2qa false 11 2 (by simp[c2]) (by rw[hT];kernel_rfl) (by rw[hT];kernel_rfl) ?_
  have hz:Z=false:=by rw[hZ];simp[z8tb,z8bc,z4rc,z7Sb,c2]
  simp(maxSteps:=1000000) (disch:=first|omega|(simp;done)|(simp;omega)) [z6G,z8pa,z7pa,hQ1,hQ9,hz]
 rw[hT];clear hT
 refine z8qa fun T hT=> ?_
 simp(maxSteps:=1000000) (disch:=first|omega|(simp;done)|(simp;omega)) [z6G,z8pa,z7pa,z59a,hl,h295,c1,c2]
 by_cases c3:inR m.par 0 2147483647=true
 rotate_left
 ·refine z2qa false 16 2 (by simp[c3]) (by rw[hT];kernel_rfl) (by rw[hT];kernel_rfl) ?_
  have hz:Z=false:=by rw[hZ];simp[z8tb,z8bc,z4rc,z7Sb,c3]
  simp(maxSteps:=1000000) (disch:=first|omega|(simp;done)|(simp;omega)) [z6G,z8pa,z7pa,hQ1,hQ9,hz]
 rw[hT];clear hT
 refine z8qa fun T hT=> ?_
 simp(maxSteps:=1000000) (disch:=first|omega|(simp;done)|(simp;omega)) [z6G,z8pa,z7pa,z97a,hl,h295,c1,c2,c3]
 by_cases c4:inR m.ty 0 31=true
 rotate_left
 ·refine z2qa false 21 2 (by simp[c4]) (by rw[hT];kernel_rfl) (by rw[hT];kernel_rfl) ?_
  have hz:Z=false:=by rw[hZ];simp[z8tb,z8bc,z4rc,z7Sb,c4]
  simp(maxSteps:=1000000) (disch:=first|omega|(simp;done)|(simp;omega)) [z6G,z8pa,z7pa,hQ1,hQ9,hz]
 rw[hT];clear hT
 refine z8qa fun T hT=> ?_
 simp(maxSteps:=1000000) (disch:=first|omega|(simp;done)|(simp;omega)) [z6G,z8pa,z7pa,z49a,hl,h295,c1,c2,c3,c4]
 by_cases c5:z8J m.uses 956=0
 rotate_left
 ·refine z2qa false 27 2 (by simp[c5]) (by rw[hT];kernel_rfl) (by rw[hT];kernel_rfl) ?_
  have hz:Z=false:=by rw[hZ];simp[z8tb,z8bc,z4rc,z7Sb,c5]
  simp(maxSteps:=1000000) (disch:=first|omega|(simp;done)|(simp;omega)) [z6G,z8pa,z7pa,hQ1,hQ9,hz]
 rw[hT];clear hT
 refine z8qa fun T hT=> ?_
 simp(maxSteps:=1000000) (disch:=first|omega|(simp;done)|(simp;omega)) [z6G,z8pa,z7pa,z78a,hl,h295,c1,c2,c3,c4,c5]
 by_cases c6:inR m.beg 0 m.fin=true
 rotate_left
 ·refine z2qa false 34 2 (by simp[c6]) (by rw[hT];kernel_rfl) (by rw[hT];kernel_rfl) ?_
  have hz:Z=false:=by rw[hZ];simp[z8tb,z8bc,z4rc,z7Sb,c6]
  simp(maxSteps:=1000000) (disch:=first|omega|(simp;done)|(simp;omega)) [z6G,z8pa,z7pa,hQ1,hQ9,hz]
 rw[hT];clear hT
 by_cases c7:inR m.fin 0 1099511627776=true
 rotate_left
 ·have hz:Z=false:=by rw[hZ];simp[z8tb,z8bc,z4rc,z7Sb,c7]
  simp(maxSteps:=1000000) (disch:=first|omega|(simp;done)|(simp;omega)) [z6G,z8pa,z7pa,hQ1,hQ9,hz,z2Ra,hl,h295,c1,c2,c3,c4,c5,c6,c7]
 have hz:Z=true:=by rw[hZ];simp[z8tb,z8bc,z4rc,z7Sb,c1,c2,c3,c4,c5,c6,c7]
 simp(maxSteps:=1000000) (disch:=first|omega|(simp;done)|(simp;omega)) [z6G,z8pa,z7pa,z2Ra,hl,h295,c1,c2,c3,c4,c5,c6,c7,hQ1,hQ9,hz]
def z3Ed:z0a:= .fn 297 [] [.ep [.fn 296 [] []]]
def z0Cd:z1f:=⟨fun ds=>∃m:z3P,m.ok∧ds=[.agg (z7Ka m),.ep [.fn 296 [] []]],fun ds=>bo (!z8tb (z8Ed (gCs (nth ds 0))))⟩
theorem z3Qc {m:z3P} (h:m.ok):z0Cd.pre [.agg (z7Ka m),.ep [.fn 296 [] []]]=True:=eq_true ⟨m,h,rfl⟩
theorem z48b (m:z3P):z0Cd.post [.agg (z7Ka m),.ep [.fn 296 [] []]]=bo (!z8tb m):=by
 show bo (!z8tb (z8Ed (z7Ka m)))=_
 rw[z9Sb]
theorem z6Rd (m:z3P):(∀c∈z7Ka m,z8a c)=True:=eq_true fun c hc=>(z8Ob c hc).2
theorem z7ce (m:z3P):(∀c∈z7Ka m,z5b c=false)=True:=eq_true fun c hc=>by
 rcases List.mem_append.1 hc with h|h
 ·simp only[List.mem_cons,List.not_mem_nil,or_false] at h
  rcases h with rfl|rfl|rfl|rfl|rfl|rfl|rfl|rfl<;>rfl
 ·simp only[bys,List.mem_map] at h
  obtain⟨x,_,rfl⟩:=h
  rfl
theorem tk_m {m:z3P} (h:m.dig.length=16):(z7Ka m).take 24=z7Ka m:=List.take_of_length_le (by rw[z0Ka h];exact Nat.le_refl _)
@[simp] theorem z4Td (m:z3P):z8b (z7Ka m)=true:=(z4i _).2 fun c hc=>(z8Ob c hc).1
@[simp] theorem z8Sd (m:z3P):z6b (z7Ka m)=[]:=by simp[z7Ka,z6b]
theorem z0Xd (E:Env) (h296:E.G 296=z5md):∀ds,z0Cd.pre ds→ds.length=z6Aa.n∧awp E z6Aa.body (z4xa z6Aa.res (z0Cd.post ds)) (z4H z6Aa.wr ds):=by
 rintro _ ⟨m,hm,rfl⟩
 rw[z48b]
 have hd:=hm.2.2.2.2.2.2.2
 have hl:=z0Ka hd
 simp(maxSteps:=1000000) (disch:=first|omega|(simp;done)|(simp;omega)) [z6G,z8pa,z7pa,z6Aa,h296,z8ud hm,z2tc,hl,z6Rd,z7ce,tk_m hd,z9f]
/-! ### the first key that .. -/
def z78c (p:z3P→Bool) (l:List z3P):Int:=if l.findIdx p<l.length then(l.findIdx p:Int) else-1
def atM (l:List z3P) (i:Nat):z3P:=l.getD i mad0
theorem z9jb {l:List z3P} {i:Nat} (h:i<l.length):atM l i=l[i]:=by simp[atM,List.getD,List.getElem?_eq_getElem h]
theorem z8Rb {l:List z3P} {i:Nat} (h:i<l.length):atM l i∈l:=by rw[z9jb h];exact List.getElem_mem h
theorem z4qd {p:z3P→Bool} {l:List z3P} {i:Nat} (hi:i<l.length) (h0:∀j<i,p (atM l j)=false) (h:p (atM l i)=true):z78c p l=i:=by
 have e:l.findIdx p=i:=by
  apply Nat.le_antisymm
  ·apply Nat.le_of_not_lt
   intro hlt
   have:=List.not_of_lt_findIdx (p:=p) (xs:=l) hlt
   rw[z9jb hi] at h
   rw[h] at this
   cases this
  ·apply Nat.le_of_not_lt
   intro hlt
   have hl:l.findIdx p<l.length:=by omega
   have h1:p l[l.findIdx p]=true:=List.findIdx_getElem (w:=hl)
   have h2:=h0 _ hlt
   rw[z9jb hl,h1] at h2
   cases h2
 rw[z78c,e,if_pos hi]
theorem z1td {p:z3P→Bool} {l:List z3P} (h0:∀j<l.length,p (atM l j)=false):z78c p l= -1:=by
 rw[z78c,if_neg]
 intro hl
 have h1:p l[l.findIdx p]=true:=List.findIdx_getElem (w:=hl)
 have h2:=h0 _ hl
 rw[z9jb hl,h1] at h2
 cases h2
theorem z67c (p:z3P→Bool) (l:List z3P):decide (0≤z78c p l)=l.any p:=by
 have:l.findIdx p<l.length↔l.any p=true:=by rw[List.findIdx_lt_length,List.any_eq_true]
 unfold z78c
 cases h:l.any p
 ·rw[if_neg (fun e=>by rw[this.1 e] at h;cases h)];rfl
 ·rw[if_pos (this.2 h)];simp
theorem z2Tb {l:List z3P} (h:z01a l) {i:Nat} (hi:i<l.length):((z5za l).drop (i*24)).take 24=z7Ka (atM l i):=by
 have e1:=z7kb (enc:=z7Ka) (P:=z2oc) (w:=24) (fun a ha=>z0Ka ha) l i (z0Ba h)
 have hd:=z0Ba h _ (List.getElem_mem hi)
 rw[show z5za l=l.flatMap z7Ka from rfl,e1,List.drop_eq_getElem_cons hi,List.flatMap_cons,List.take_left' (z0Ka hd),z9jb hi]
theorem z4nd {l:List z3P} (h:z01a l) {i:Nat} (hi:i<l.length):i*24+24≤(z5za l).length:=by
 rw[z2Xa (z0Ba h)]
 omega
def z2gc:z1f:=⟨fun ds=>∃(nl:Option Bool) (l:List z3P),z01a l∧l.length≤1000000∧ds=[.sl .plain nl l.length (z5za l),z3Ed],fun ds=>i64 (z78c (fun m=> !z8tb m) (z0Yb (gNn (nth ds 0)) (gCs (nth ds 0))))⟩
theorem z6zc {nl:Option Bool} {l:List z3P} (h:z01a l) (h1:l.length≤1000000):z2gc.pre [.sl .plain nl l.length (z5za l),.fn 297 [] [.ep [.fn 296 [] []]]]=True:=eq_true ⟨nl,l,h,h1,rfl⟩
theorem z7fc (nl:Option Bool) {l:List z3P} (h:z01a l):z2gc.post [.sl .plain nl l.length (z5za l),.fn 297 [] [.ep [.fn 296 [] []]]]=i64 (z78c (fun m=> !z8tb m) l):=by
 show i64 (z78c (fun m=> !z8tb m) (z0Yb l.length (z5za l)))=_
 rw[z9Cb (z0Ba h)]
set_option maxHeartbeats 4000000 in
theorem z8zd (E:Env) (h297:E.G 297=z0Cd):∀ds,z2gc.pre ds→ds.length=z6qa.n∧awp E z6qa.body (z4xa z6qa.res (z2gc.post ds)) (z4H z6qa.wr ds):=by
 rintro _ ⟨nl,l,h16,hl,rfl⟩
 unfold z3Ed
 rw[z7fc nl h16]
 have hlen:=z2Xa (z0Ba h16)
 simp(maxSteps:=1000000) (disch:=first|omega|(simp;done)|(simp;omega)) [z6G,z8pa,z7pa,z6qa]
 refine z1g fun Q0 hQ0=> ?_
 refine z1v (fun i:Nat=>⟨[(0,.sl .plain nl l.length (z5za l)),(1,.fn 297 [] [.ep [.fn 296 [] []]])],[(7,i64 l.length),(8,i64 i)],[]⟩)
  (fun i=>l.length-i) (fun i=>i≤l.length∧∀j<i,(!z8tb (atM l j))=false) 0 (by simp) (by simp) fun i hi=> ?_
 obtain⟨hi,he⟩:=hi
 refine z1g fun Q1 hQ1=> ?_
 by_cases h1:i<l.length
 ·have hm:=h16 _ (z8Rb h1)
  have ha:=z2Tb h16 h1
  have hle:=z4nd h16 h1
  have hle':i*24≤l.length*24:=by omega
  have hle2:24≤l.length*24-i*24:=by omega
  cases h2:z8tb (atM l i)
  ·have hR:=z4qd (p:=fun m=> !z8tb m) h1 he (by rw[h2];rfl)
   simp(maxSteps:=1000000) (disch:=first|omega|(simp;done)|(simp;omega)) [z6G,z8pa,z7pa,z7ra,z3ta,kT,kF,dT,dF,h1,ha,hlen,hle',hle2,h297,z3Qc hm,z48b,h2,z9f,hQ1,hQ0,hR]
  ·simp(maxSteps:=1000000) (disch:=first|omega|(simp;done)|(simp;omega)) [z6G,z8pa,z7pa,z7ra,z3ta,kT,kF,dT,dF,h1,ha,hlen,hle',hle2,h297,z3Qc hm,z48b,h2,z9f,hQ1]
   refine⟨i+1,by omega,⟨by omega,fun j hj=> ?_⟩,by omega⟩
   rcases Nat.lt_or_eq_of_le (Nat.lt_succ_iff.1 hj) with h|h
   ·simpa using he j h
   ·rw[h];simpa using h2
 ·have hl':i=l.length:=by omega
  have hR:=z1td (p:=fun m=> !z8tb m) (l:=l) (fun j hj=>he j (by omega))
  simp(maxSteps:=1000000) (disch:=first|omega|(simp;done)|(simp;omega)) [z6G,z8pa,z7pa,z7ra,kT,kF,dT,dF,h1,hQ1,hQ0,z9xa,hR]
def z6pc:z1f:=⟨z2gc.pre,fun ds=>bo (!(z0Yb (gNn (nth ds 0)) (gCs (nth ds 0))).all z8tb)⟩
theorem z07b {nl:Option Bool} {l:List z3P} (h:z01a l) (h1:l.length≤1000000):z6pc.pre [.sl .plain nl l.length (z5za l),.fn 297 [] [.ep [.fn 296 [] []]]]=True:=z6zc h h1
theorem z5Bb (nl:Option Bool) {l:List z3P} (h:z01a l):z6pc.post [.sl .plain nl l.length (z5za l),.fn 297 [] [.ep [.fn 296 [] []]]]=bo (!l.all z8tb):=by
 show bo (!(z0Yb l.length (z5za l)).all z8tb)=_
 rw[z9Cb (z0Ba h)]
theorem z5wd (E:Env) (h313:E.G 313=z2gc):∀ds,z6pc.pre ds→ds.length=z1qa.n∧awp E z1qa.body (z4xa z1qa.res (z6pc.post ds)) (z4H z1qa.wr ds):=by
 rintro _ ⟨nl,l,h16,hl,rfl⟩
 unfold z3Ed
 rw[z5Bb nl h16,List.all_eq_not_any_not,Bool.not_not,←z67c]
 simp(maxSteps:=1000000) (disch:=first|omega|(simp;done)|(simp;omega)) [z6G,z8pa,z7pa,z1qa,h313,z6zc h16 hl,z7fc nl h16,z3Db,z8e,z1k]
end Go.Abs
end

section
namespace Go.Abs
set_option maxRecDepth 100000
theorem z3bb (n lo hi:Int):inR n lo hi=true↔lo≤n∧n≤hi:=by simp[inR]
theorem z4Gb {x:z2n} (h:okE x=true):0≤x.time∧x.time≤1099511627776∧0≤x.req∧x.req≤2147483647∧1≤x.mode∧x.mode≤5∧x.made.length≤4096∧x.gone.length≤4096:=by
 simp only[okE,z3bb,Bool.and_eq_true,decide_eq_true_eq] at h
 simp only[z8bc,z4rc] at h
 omega
theorem z7jb:z8u.small:=by
 refine⟨⟨?_,?_,?_,?_,?_,?_,?_⟩,by simp[z8u],by simp[z8u]⟩<;>simp[z8u,z2e]
theorem z7Fc {t m:Int} (ht:z2e t) (hm:z2e m):(z7cc t m).small:=by
 refine⟨⟨ht,by simp[z7cc,z2e],by simp[z7cc,z2e],hm,z7jb.1,rfl,fun _ h=>(by cases h),fun _ h=>(by cases h)⟩,z7jb,by simp[z7cc],by simp[z7cc]⟩
set_option maxHeartbeats 8000000 in
theorem z2xd (E:Env) (h295:E.G 295=z0jd) (h298:E.G 298=z6pc) (h294:E.G 294=z7wd) (h299:E.G 299=z1Mb) (h293:E.G 293=z0Bd):∀ds,z2kc.pre ds→ds.length=z1Fa.n∧awp E z1Fa.body (z4xa z1Fa.res (z2kc.post ds)) (z4H z1Fa.wr ds):=by
 rintro _ ⟨nc,nm,ng,x,hx,rfl⟩
 rw[z9Nb hx]
 have hm16:=hx.1.2.2.2.2.2.2.1
 have hd:=hx.1.2.2.2.2.2.1
 have hml:=hx.2.2.1
 have hgl:=hx.2.2.2
 have hmp:=z7Fc hx.1.1 hx.1.2.2.2.1
 have hl:=z8Qa (nc:=nc) (nm:=nm) (ng:=ng) hd
 have htk:=z6ed (nc:=nc) (nm:=nm) (ng:=ng) hd
 have h28:=z7Lb (nc:=nc) (nm:=nm) (ng:=ng) hd
 have h29:=z6Lb (nc:=nc) (nm:=nm) (ng:=ng) hd
 obtain⟨Z,hZ⟩:∃Z,Z=okE x:=⟨_,rfl⟩
 rw[←hZ]
 refine⟨rfl,?_⟩
 simp only[z1Fa]
 refine z1g fun Q9 hQ9=> ?_
 refine z1Wa fun B hB=> ?_
 simp(maxSteps:=1000000) (disch:=first|omega|(simp;done)|(simp;omega)) [z6G,z8pa,z7pa,hl]
 rw[hB];clear hB
 rw[z4ia]
 refine z1g fun Q1 hQ1=> ?_
 rw[z4ia]
 refine z1g fun Q2 hQ2=> ?_
 rw[z1W]
 refine z8qa fun T hT=> ?_
 simp(maxSteps:=1000000) (disch:=first|omega|(simp;done)|(simp;omega)) [z6G,z8pa,z7pa,z8lb,hl,h295,h28,h29]
 by_cases c1:inR x.time 0 1099511627776=true
 rotate_left
 ·refine z2qa true 8 31 (by simp[c1]) (by rw[hT];kernel_rfl) (by rw[hT];kernel_rfl) ?_
  have hz:Z=false:=by
   cases hc:okE x
   ·rw[hZ,hc]
   ·have hq:=z4Gb hc
    exfalso
    first|omega|(have:=mt (z3bb _ _ _).2 c1;omega)
  simp(maxSteps:=1000000) (disch:=first|omega|(simp;done)|(simp;omega)) [z6G,z8pa,z7pa,hQ2,hQ1,hQ9,kT,hz]
 rw[hT];clear hT
 refine z8qa fun T hT=> ?_
 simp(maxSteps:=1000000) (disch:=first|omega|(simp;done)|(simp;omega)) [z6G,z8pa,z7pa,z3mb,hl,h295,h28,h29,c1]
 by_cases c2:inR x.req 0 2147483647=true
 rotate_left
 ·refine z2qa true 14 31 (by simp[c2]) (by rw[hT];kernel_rfl) (by rw[hT];kernel_rfl) ?_
  have hz:Z=false:=by
   cases hc:okE x
   ·rw[hZ,hc]
   ·have hq:=z4Gb hc
    exfalso
    first|omega|(have:=mt (z3bb _ _ _).2 c2;omega)
  simp(maxSteps:=1000000) (disch:=first|omega|(simp;done)|(simp;omega)) [z6G,z8pa,z7pa,hQ2,hQ1,hQ9,kT,hz]
 rw[hT];clear hT
 refine z8qa fun T hT=> ?_
 simp(maxSteps:=1000000) (disch:=first|omega|(simp;done)|(simp;omega)) [z6G,z8pa,z7pa,z2mb,hl,h295,h28,h29,c1,c2]
 by_cases c3:inR x.mode 1 5=true
 rotate_left
 ·refine z2qa true 20 31 (by simp[c3]) (by rw[hT];kernel_rfl) (by rw[hT];kernel_rfl) ?_
  have hz:Z=false:=by
   cases hc:okE x
   ·rw[hZ,hc]
   ·have hq:=z4Gb hc
    exfalso
    first|omega|(have:=mt (z3bb _ _ _).2 c3;omega)
  simp(maxSteps:=1000000) (disch:=first|omega|(simp;done)|(simp;omega)) [z6G,z8pa,z7pa,hQ2,hQ1,hQ9,kT,hz]
 rw[hT];clear hT
 refine z8qa fun T hT=> ?_
 simp(maxSteps:=1000000) (disch:=first|omega|(simp;done)|(simp;omega)) [z6G,z8pa,z7pa,z9lb,hl,h295,h28,h29,c1,c2,c3]
 by_cases n4:4096<(x.made.length:Int)
 ·refine z2qa true 26 31 (by simp[n4]) (by rw[hT];kernel_rfl) (by rw[hT];kernel_rfl) ?_
  have hz:Z=false:=by
   cases hc:okE x
   ·rw[hZ,hc]
   ·have hq:=z4Gb hc
    exfalso
    first|omega|(have:=mt (z3bb _ _ _).2 n4;omega)
  simp(maxSteps:=1000000) (disch:=first|omega|(simp;done)|(simp;omega)) [z6G,z8pa,z7pa,hQ2,hQ1,hQ9,kT,hz]
 rw[hT];clear hT
 by_cases n5:4096<(x.gone.length:Int)
 ·have hz:Z=false:=by
   cases hc:okE x
   ·rw[hZ,hc]
   ·have hq:=z4Gb hc
    exfalso
    first|omega|(have:=mt (z3bb _ _ _).2 n5;omega)
  simp(maxSteps:=1000000) (disch:=first|omega|(simp;done)|(simp;omega)) [z6G,z8pa,z7pa,hQ2,hQ1,hQ9,kT,hz,z50a,hl,h295,h28,h29,c1,c2,c3,n4,n5]
 simp(maxSteps:=1000000) (disch:=first|omega|(simp;done)|(simp;omega)) [z6G,z8pa,z7pa,z50a,hl,h295,h28,h29,c1,c2,c3,n4,n5,hQ2,hQ1,kF]
 have q4:x.made.length≤4096:=by omega
 have q5:x.gone.length≤4096:=by omega
 cases c6:x.made.all z8tb
 ·have hz:Z=false:=by simp only[hZ,okE,c6];simp
  simp(maxSteps:=1000000) (disch:=first|omega|(simp;done)|(simp;omega)) [z6G,z8pa,z7pa,z4La,h298,z07b hm16 hml,z5Bb nm hm16,z3Db,z8e,z1k,hl,c6,h28,kT,kF,hQ9,hz]
 have hzz:Z=if x.kind=0 then z6La x (z7cc x.time x.mode) else inR x.kind 1 27&&(x.cmd.kind==x.kind)&&(!z1Dc x.kind||decide (x.cmd.data=[])):=by
  simp only[hZ,okE,c6,c3,q4,q5,z4rc,z8bc,c1,c2,decide_true,Bool.true_and,Bool.and_true]
 by_cases hk:x.kind=0
 ·rw[if_pos hk] at hzz
  simp(maxSteps:=1000000) (disch:=first|omega|(simp;done)|(simp;omega)) [z6G,z8pa,z7pa,z4La,z6Za,h298,z07b hm16 hml,z5Bb nm hm16,z3Db,z8e,z1k,hl,htk,c6,h28,kT,kF,hk,h294,h299,z0yc hx hmp,z4Db hx hmp,hQ9,hzz]
 rw[if_neg hk] at hzz
 have hk':(x.kind==0)=false:=by simpa using hk
 simp(maxSteps:=1000000) (disch:=first|omega|(simp;done)|(simp;omega)) [z6G,z8pa,z7pa,z4La,z6Za,h298,z07b hm16 hml,z5Bb nm hm16,z3Db,z8e,z1k,hl,c6,h28,kT,kF,hk,hk']
 simp only[z6mb]
 rw[z4ia]
 refine z1g fun Q3 hQ3=> ?_
 rw[z1W]
 by_cases c7:inR x.kind 1 27=true
 rotate_left
 ·have hz:Z=false:=by rw[hzz];simp[c7]
  simp(maxSteps:=1000000) (disch:=first|omega|(simp;done)|(simp;omega)) [z6G,z8pa,z7pa,z70a,z2La,z3Ga,hl,h295,c7,hQ3,hQ9,hz]
 refine z8qa fun T hT=> ?_
 simp(maxSteps:=1000000) (disch:=first|omega|(simp;done)|(simp;omega)) [z6G,z8pa,z7pa,z70a,hl,h295,c7]
 rw[hT];clear hT
 by_cases c8:x.cmd.kind=x.kind
 rotate_left
 ·have hz:Z=false:=by rw[hzz];simp[c8]
  have c8':(x.cmd.kind==x.kind)=false:=by simpa using c8
  simp(maxSteps:=1000000) (disch:=first|omega|(simp;done)|(simp;omega)) [z6G,z8pa,z7pa,z2La,z3Ga,hl,c7,c8',hQ3,hQ9,hz]
 refine z8qa fun T hT=> ?_
 simp(maxSteps:=1000000) (disch:=first|omega|(simp;done)|(simp;omega)) [z6G,z8pa,z7pa,z2La,hl,h295,c7,c8]
 rw[hT];clear hT
 cases c9:z1Dc x.kind
 ·have hz:Z=true:=by rw[hzz];simp[c7,c8,c9]
  simp(maxSteps:=1000000) (disch:=first|omega|(simp;done)|(simp;omega)) [z6G,z8pa,z7pa,z3Ga,h293,hl,c7,c8,c9,hQ3,hQ9,hz]
 have hz:Z=decide (x.cmd.data=[]):=by rw[hzz];simp[c7,c8,c9]
 simp(maxSteps:=1000000) (disch:=first|omega|(simp;done)|(simp;omega)) [z6G,z8pa,z7pa,z3Ga,h293,hl,c7,c8,c9,hQ3,hQ9,hz]
end Go.Abs
end

section
namespace Go.Abs
set_option maxRecDepth 100000
theorem z1vd {l:List UInt8} (h:l.length=16):∃a b c d e f g i j k m n o p q r,l=[a,b,c,d,e,f,g,i,j,k,m,n,o,p,q,r]:=by
 match l,h with
 |[a,b,c,d,e,f,g,i,j,k,m,n,o,p,q,r],_=>exact⟨a,b,c,d,e,f,g,i,j,k,m,n,o,p,q,r,rfl⟩
theorem eqM {x y:z3P} (hx:x.dig.length=16) (hy:y.dig.length=16):z7s kM (z7Ka x) (z7Ka y)=decide (x=y):=by
 obtain⟨x1,x2,x3,x4,x5,x6,x7,x8,xd⟩:=x
 obtain⟨y1,y2,y3,y4,y5,y6,y7,y8,yd⟩:=y
 simp only at hx hy
 obtain⟨a,b,c,d,e,f,g,i,j,k,m,n,o,p,q,r,rfl⟩:=z1vd hx
 obtain⟨a',b',c',d',e',f',g',i',j',k',m',n',o',p',q',r',rfl⟩:=z1vd hy
 have h8:∀u v:UInt8,((u.toNat:Int)==v.toNat)=(u==v):=fun u v=>by
  rw[Bool.eq_iff_iff,beq_iff_eq,beq_iff_eq]
  constructor
  ·intro h;exact UInt8.toNat_inj.1 (by omega)
  ·rintro rfl;rfl
 rw[Bool.eq_iff_iff]
 simp[kM,z7s,z15d,z7Ka,bys,h8,z3P.mk.injEq]
theorem z95d {x:z3P} (hx:x.dig.length=16):z6n kM (z7Ka x)=True:=by
 obtain⟨x1,x2,x3,x4,x5,x6,x7,x8,xd⟩:=x
 simp only at hx
 obtain⟨a,b,c,d,e,f,g,i,j,k,m,n,o,p,q,r,rfl⟩:=z1vd hx
 refine eq_true ?_
 repeat' first|exact trivial|exact rfl|refine And.intro ?_ ?_
def z4Vb:z1f:=⟨fun ds=>∃(nl nl':Option Bool) (a b:List z3P),z01a a∧z01a b∧a.length≤1000000∧ds=[.sl .plain nl a.length (z5za a),.sl .plain nl' b.length (z5za b)],
 fun ds=>bo (decide (z0Yb (gNn (nth ds 0)) (gCs (nth ds 0))=z0Yb (gNn (nth ds 1)) (gCs (nth ds 1))))⟩
theorem z9Xc {nl nl':Option Bool} {a b:List z3P} (h:z01a a) (h':z01a b) (hl:a.length≤1000000):z4Vb.pre [.sl .plain nl a.length (z5za a),.sl .plain nl' b.length (z5za b)]=True:=eq_true ⟨nl,nl',a,b,h,h',hl,rfl⟩
theorem z11b (nl nl':Option Bool) {a b:List z3P} (h:z01a a) (h':z01a b):z4Vb.post [.sl .plain nl a.length (z5za a),.sl .plain nl' b.length (z5za b)]=bo (decide (a=b)):=by
 show bo (decide (z0Yb a.length (z5za a)=z0Yb b.length (z5za b)))=_
 rw[z9Cb (z0Ba h),z9Cb (z0Ba h')]
theorem z5Ad {a b:List z3P} (h:a.length=b.length) (he:a.take a.length=b.take a.length):a=b:=by
 rw[List.take_length,h,List.take_length] at he
 exact he
set_option maxHeartbeats 4000000 in
theorem z4dd (E:Env):∀ds,z4Vb.pre ds→ds.length=z4ta.n∧awp E z4ta.body (z4xa z4ta.res (z4Vb.post ds)) (z4H z4ta.wr ds):=by
 rintro _ ⟨nl,nl',a,b,ha,hb,hl,rfl⟩
 rw[z11b nl nl' ha hb]
 by_cases h:a.length=b.length
 rotate_left
 ·have hz:decide (a=b)=false:=by simpa using fun e:a=b=>h (by rw[e])
  have h':¬((a.length:Int)=b.length):=by omega
  simp(maxSteps:=1000000) (disch:=first|omega|(simp;done)|(simp;omega)) [z6G,z8pa,z7pa,z4ta,z5Ha,h',kT,kF,hz]
 have h':((a.length:Int)=b.length):=by omega
 have hla:=z2Xa (z0Ba ha)
 have hlb:=z2Xa (z0Ba hb)
 simp(maxSteps:=1000000) (disch:=first|omega|(simp;done)|(simp;omega)) [z6G,z8pa,z7pa,z4ta,z5Ha,h',kT,kF]
 refine z1g fun Q0 hQ0=> ?_
 refine z1v (fun i:Nat=>⟨[(0,.sl .plain nl a.length (z5za a)),(1,.sl .plain nl' b.length (z5za b))],[(12,i64 a.length),(13,i64 i)],[]⟩)
  (fun i=>a.length-i) (fun i=>i≤a.length∧a.take i=b.take i) 0 (by simp[h']) (by simp) fun i hi=> ?_
 obtain⟨hi,he⟩:=hi
 refine z1g fun Q1 hQ1=> ?_
 by_cases h1:i<a.length
 ·have h3:i<b.length:=by omega
  have e1:=z2Tb ha h1
  have e2:=z2Tb hb h3
  have l1:24≤a.length*24-i*24:=by omega
  have l2:24≤b.length*24-i*24:=by omega
  have l3:i*24≤a.length*24:=by omega
  have l4:i*24≤b.length*24:=by omega
  have d1:=(ha _ (z8Rb h1)).2.2.2.2.2.2.2
  have d2:=(hb _ (z8Rb h3)).2.2.2.2.2.2.2
  have hq:=eqM d1 d2
  have ho1:=z95d d1
  have ho2:=z95d d2
  by_cases h2:atM a i=atM b i
  ·rw[←h2] at e2 ho2 hq
   simp only[decide_true] at hq
   simp(maxSteps:=1000000) (disch:=first|omega|(simp;done)|(simp;omega)) [z6G,z8pa,z7pa,z2Ba,z6Ha,kT,kF,dT,dF,h1,h3,hla,hlb,e1,e2,l1,l2,l3,l4,hq,ho1,hQ1]
   refine⟨i+1,by omega,⟨by omega,?_⟩,by omega⟩
   rw[List.take_succ_eq_append_getElem h1,List.take_succ_eq_append_getElem h3,he,←z9jb h1,←z9jb h3,h2]
  ·have hz:decide (a=b)=false:=by simpa using fun e:a=b=>h2 (by rw[e])
   have hq':z7s kM (z7Ka (atM a i)) (z7Ka (atM b i))=false:=by rw[hq];simpa using h2
   simp(maxSteps:=1000000) (disch:=first|omega|(simp;done)|(simp;omega)) [z6G,z8pa,z7pa,z2Ba,z6Ha,kT,kF,dT,dF,h1,h3,hla,hlb,e1,e2,l1,l2,l3,l4,hq',ho1,ho2,hQ1,hQ0,hz]
 ·have e:i=a.length:=by omega
  subst e
  have hz:decide (a=b)=true:=by simpa using z5Ad h he
  simp(maxSteps:=1000000) (disch:=first|omega|(simp;done)|(simp;omega)) [z6G,z8pa,z7pa,z2Ba,z5Ta,kT,kF,dT,dF,hQ1,hQ0,hz]
theorem z48c (a b:List Int):decide (a=b)=(a==b):=by rw[Bool.eq_iff_iff];simp
set_option maxHeartbeats 8000000 in
theorem z62c (E:Env) (h133:E.G 133=z4ab) (h301:E.G 301=z4Vb) (h132:E.G 132=z4Oa):∀ds,z1Mb.pre ds→ds.length=z2Ja.n∧awp E z2Ja.body (z4xa z2Ja.res (z1Mb.post ds)) (z4H z2Ja.wr ds):=by
 rintro _ ⟨nc,nm,ng,nc',nm',ng',x,y,hx,hy,rfl⟩
 rw[z4Db hx hy]
 have hd:=hx.1.2.2.2.2.2.1
 have hd':=hy.1.2.2.2.2.2.1
 have hl:=z8Qa (nc:=nc) (nm:=nm) (ng:=ng) hd
 have hl':=z8Qa (nc:=nc') (nm:=nm') (ng:=ng') hd'
 have h28:=z7Lb (nc:=nc) (nm:=nm) (ng:=ng) hd
 have h29:=z6Lb (nc:=nc) (nm:=nm) (ng:=ng) hd
 have h28':=z7Lb (nc:=nc') (nm:=nm') (ng:=ng') hd'
 have h29':=z6Lb (nc:=nc') (nm:=nm') (ng:=ng') hd'
 have hg:=z6Fb (nc:=nc) (nm:=nm) (ng:=ng) hd
 have hg':=z6Fb (nc:=nc') (nm:=nm') (ng:=ng') hd'
 have hm:=hx.1.2.2.2.2.2.2.1
 have hm':=hy.1.2.2.2.2.2.2.1
 have hgl:=hx.2.2.2
 obtain⟨Z,hZ⟩:∃Z,Z=z6La x y:=⟨_,rfl⟩
 rw[←hZ]
 have eqd:=z37a hd hd'
 have p1:=z8Cb (nl:=nc) (nl':=nc') hx.2.1 hy.2.1
 have q1:=z53a x.cmd y.cmd nc nc'
 have p2:=z9Xc (nl:=nm) (nl':=nm') hm hm' hx.2.2.1
 have q2:=z11b nm nm' hm hm'
 refine⟨rfl,?_⟩
 simp only[z2Ja]
 refine z1g fun Q9 hQ9=> ?_
 refine z1Wa fun B hB=> ?_
 simp(maxSteps:=1000000) (disch:=first|omega|(simp;done)|(simp;omega)) [z6G,z8pa,z7pa,hl,hl']
 rw[hB];clear hB
 rw[z4ia]
 refine z1g fun Q1 hQ1=> ?_
 rw[z1W]
 refine z8qa fun T hT=> ?_
 simp(maxSteps:=1000000) (disch:=first|omega|(simp;done)|(simp;omega)) [z6G,z8pa,z7pa,z2ob,hl,hl',h28,h29,h28',h29',hg,hg',eqd,hd,hd',h133,h301,h132,p1,q1,p2,q2]
 by_cases c1:x.time=y.time
 rotate_left
 ·refine z2qa false 10 4 (by simp[c1]) (by rw[hT];kernel_rfl) (by rw[hT];kernel_rfl) ?_
  have hz:Z=false:=by rw[hZ];simp[z6La,c1]
  simp(maxSteps:=1000000) (disch:=first|omega|(simp;done)|(simp;omega)) [z6G,z8pa,z7pa,hQ1,hQ9,hz]
 rw[hT];clear hT
 refine z8qa fun T hT=> ?_
 simp(maxSteps:=1000000) (disch:=first|omega|(simp;done)|(simp;omega)) [z6G,z8pa,z7pa,z5qb,hl,hl',h28,h29,h28',h29',hg,hg',eqd,hd,hd',h133,h301,h132,p1,q1,p2,q2,c1]
 by_cases c2:x.kind=y.kind
 rotate_left
 ·refine z2qa false 17 4 (by simp[c2]) (by rw[hT];kernel_rfl) (by rw[hT];kernel_rfl) ?_
  have hz:Z=false:=by rw[hZ];simp[z6La,c2]
  simp(maxSteps:=1000000) (disch:=first|omega|(simp;done)|(simp;omega)) [z6G,z8pa,z7pa,hQ1,hQ9,hz]
 rw[hT];clear hT
 refine z8qa fun T hT=> ?_
 simp(maxSteps:=1000000) (disch:=first|omega|(simp;done)|(simp;omega)) [z6G,z8pa,z7pa,z7sb,hl,hl',h28,h29,h28',h29',hg,hg',eqd,hd,hd',h133,h301,h132,p1,q1,p2,q2,c1,c2]
 by_cases c3:x.req=y.req
 rotate_left
 ·refine z2qa false 24 4 (by simp[c3]) (by rw[hT];kernel_rfl) (by rw[hT];kernel_rfl) ?_
  have hz:Z=false:=by rw[hZ];simp[z6La,c3]
  simp(maxSteps:=1000000) (disch:=first|omega|(simp;done)|(simp;omega)) [z6G,z8pa,z7pa,hQ1,hQ9,hz]
 rw[hT];clear hT
 refine z8qa fun T hT=> ?_
 simp(maxSteps:=1000000) (disch:=first|omega|(simp;done)|(simp;omega)) [z6G,z8pa,z7pa,z6pb,hl,hl',h28,h29,h28',h29',hg,hg',eqd,hd,hd',h133,h301,h132,p1,q1,p2,q2,c1,c2,c3]
 by_cases c4:x.mode=y.mode
 rotate_left
 ·refine z2qa false 31 4 (by simp[c4]) (by rw[hT];kernel_rfl) (by rw[hT];kernel_rfl) ?_
  have hz:Z=false:=by rw[hZ];simp[z6La,c4]
  simp(maxSteps:=1000000) (disch:=first|omega|(simp;done)|(simp;omega)) [z6G,z8pa,z7pa,hQ1,hQ9,hz]
 rw[hT];clear hT
 refine z8qa fun T hT=> ?_
 simp(maxSteps:=1000000) (disch:=first|omega|(simp;done)|(simp;omega)) [z6G,z8pa,z7pa,z4rb,hl,hl',h28,h29,h28',h29',hg,hg',eqd,hd,hd',h133,h301,h132,p1,q1,p2,q2,c1,c2,c3,c4]
 by_cases c5:x.dig=y.dig
 rotate_left
 ·refine z2qa false 38 4 (by simp[c5]) (by rw[hT];kernel_rfl) (by rw[hT];kernel_rfl) ?_
  have hz:Z=false:=by rw[hZ];simp[z6La,c5]
  simp(maxSteps:=1000000) (disch:=first|omega|(simp;done)|(simp;omega)) [z6G,z8pa,z7pa,hQ1,hQ9,hz]
 rw[hT];clear hT
 refine z8qa fun T hT=> ?_
 simp(maxSteps:=1000000) (disch:=first|omega|(simp;done)|(simp;omega)) [z6G,z8pa,z7pa,z1sb,hl,hl',h28,h29,h28',h29',hg,hg',eqd,hd,hd',h133,h301,h132,p1,q1,p2,q2,c1,c2,c3,c4,c5]
 by_cases c6:z9Bb x.cmd y.cmd=true
 rotate_left
 ·refine z2qa false 45 4 (by simp[c6]) (by rw[hT];kernel_rfl) (by rw[hT];kernel_rfl) ?_
  have hz:Z=false:=by rw[hZ];simp[z6La,c6]
  simp(maxSteps:=1000000) (disch:=first|omega|(simp;done)|(simp;omega)) [z6G,z8pa,z7pa,hQ1,hQ9,hz]
 rw[hT];clear hT
 refine z8qa fun T hT=> ?_
 simp(maxSteps:=1000000) (disch:=first|omega|(simp;done)|(simp;omega)) [z6G,z8pa,z7pa,z2sb,hl,hl',h28,h29,h28',h29',hg,hg',eqd,hd,hd',h133,h301,h132,p1,q1,p2,q2,c1,c2,c3,c4,c5,c6]
 by_cases c7:x.made=y.made
 rotate_left
 ·refine z2qa false 52 4 (by simp[c7]) (by rw[hT];kernel_rfl) (by rw[hT];kernel_rfl) ?_
  have hz:Z=false:=by rw[hZ];simp[z6La,c7]
  simp(maxSteps:=1000000) (disch:=first|omega|(simp;done)|(simp;omega)) [z6G,z8pa,z7pa,hQ1,hQ9,hz]
 rw[hT];clear hT
 have hz:Z=(x.gone==y.gone):=by
  rw[←z48c,hZ]
  simp[z6La,c1,c2,c3,c4,c5,c6,c7]
 simp(maxSteps:=1000000) (disch:=first|omega|(simp;done)|(simp;omega)) [z6G,z8pa,z7pa,z5rb,hl,hl',h28,h29,h28',h29',hg,hg',eqd,hd,hd',h133,h301,h132,p1,q1,p2,q2,z7Vb,c1,c2,c3,c4,c5,c6,c7,hQ1,hQ9,hz]
end Go.Abs
end
