/- Lemmas: an abstract interpreter, and what the functions compute. -/
import Derived.Test.YtepddcbbkhdfiaaGreatDoorI
import Derived.Test.YtepddcbbkhdfiaaGreatDoorG
import Derived.Test.YtepddcbbkhdfiaaGreatDoorN
import Derived.Test.YtepddcbbkhdfiaaGreatDoorK
import Derived.Test.YtepddcbbkhdfiaaGreatDoorL
import Derived.Test.YtepddcbbkhdfiaaGreatDoorQ
import Derived.Test.YtepddcbbkhdfiaaGreatDoorR
set_option linter.unusedSimpArgs false
set_option linter.unusedVariables false
set_option linter.unusedSectionVars false
section
namespace Go.Abs
set_option maxRecDepth 100000
def z5nb:z1c:=
 Yq (.block 1 (Yr [5,25] [Ym 17 0,Ym 18 5,Yi 19 16 17 18,YJ 20 16 19,Ym 21 1,Ym 22 5,Yi 23 16 21 22,YJ 24 16 23,Yo 25 (.eqF (ks8 16) true (.s 20) (.s 24))] (Yd 25 (Yr [4] [Yw 4 false] .ret) (Yy [5])))) (Yu [5] [Ym 15 5,YB 16 .add 15 1,Ym 5 16])
def z9nb:z1c:=
 Yq (Yr [5,14] [Ym 11 5,Ym 12 0,Yn 13 12,Yb 14 .lss 11 13] (Yd 14 (Yy [5]) (YY []))) z5nb
def z3nb:z1c:=
 Yr [4] [Yw 4 true] .ret
def z2nb:z1c:=
 Yq (Yr [5] [Yc 5 0] (.block 0 (.loop z9nb))) z3nb
def z4yb:z1ka:=
 {n:=2,wr:=[],res:=[.t 4],body:=Yr [] [Yw 4 false] (Yq (Yr [10] [Ym 6 0,Yn 7 6,Ym 8 1,Yn 9 8,Yb 10 .neq 7 9] (Yd 10 (Yr [4] [Yw 4 false] .ret) (Yy []))) z2nb)}
def z5jb:z1ka:=
 {n:=2,wr:=[],res:=[.t 4],body:=YR [2,3] [.norm [2,3]] [Yx 2 2 2 0,Yx 3 3 2 1,Yw 4 false] (YR [2,3,5] [.norm [2,3]] [Yf 6 1 2,Yl 7 2 6,Yf 8 1 3,Yl 9 3 8,YK 10 200 7 9,Ym 5 10] (YR [4] [.norm [2,3]] [Ym 11 5,Ym 12 11,YG 12 (Yf 13 0 2),YG 12 (Yl 14 2 13),YG 12 (Yf 15 0 3),YG 12 (Yl 16 3 15),YG 12 (Yb 17 .eql 14 16),Yp 18 12 17,Ym 4 18] .ret))}
def z3tb:z1c:=
 .block 1 (Yr [2,4,6,7,8] [Ym 29 8,YB 30 .sub 29 1,Ym 8 30] (YR [2,4,6,7,8] [.norm [2,3,4,6]] [Yf 31 1 2,Yl 32 2 31,Ym 33 8,Yi 34 16 32 33,YJ 35 16 34,YL 36 16 6 6,YK 37 202 35 36,Ys 16 6 6 37] (Yu [2,4,6,7,8] [Ym 38 7,YB 39 .quo 38 2,Ym 7 39])))
def z5sb:z1c:=
 Yq (Yr [2,4,6,7,8,28] [Ym 26 7,YB 27 .rem 26 2,YB 28 .eql 27 1] (Yd 28 (Yy [2,4,6,7,8]) (YY [2,4,6,8]))) z3tb
def z8qb:z1c:=
 YR [2,4,6,8,9] [.norm [2,3,4,6,9],.reB 9 1 (some 16),.norm [2,3,4,6,9]] [Yf 40 0 2,Yl 41 2 40,YB 42 .add 41 1,Yo 43 (.build [i64 0,.sl .plain (some true) 0 []] [(0,1,.s 42)]),Yo 9 (.alloc 9 [i64 0,.sl (.own 16) none 0 []]),Ys 2 9 9 43] (YR [4,6,9] [.norm [2,3,4,6,9]] [Yf 44 1 9,Yo 45 (.load none (some 9) true (.s 44)),Yf 46 1 2,Yl 47 2 46,Ym 48 8,Yo 49 (.slSl 16 (.s 47) none (some (.s 48)) none),Yo 50 (.append 16 16 false none none 45 (.s 49)),Yf 51 1 9,YO (.store none 9 true (.s 51) (.s 50))] (YR [4,9] [.norm [2,3,4,6,9],.reB 9 1 none,.norm [2,3,4,6,9]] [Yf 52 1 9,Yo 53 (.load none (some 9) true (.s 52)),YL 54 16 6 6,Yo 55 (.buildSl 16 1 (bys (z5j 16)) [(0,16,.s 54)]),Yo 56 (.append 16 16 false none none 53 (.s 55)),Yf 57 1 9,YO (.store none 9 true (.s 57) (.s 56))] (YR [4,5] [.norm [2,3,4,6,9]] [YL 58 2 9 9,Ys 2 4 4 58,Yc 5 0] .ret)))
def z2qb:z1c:=
 YR [2,4,6] [.norm [2,3,4,6]] [YL 19 16 3 3,Yk 20 201 19,Yz 6 6 16,Ys 16 6 6 20] (YR [2,4,6,7] [.norm [2,3,4,6]] [Yf 21 0 2,Yl 22 2 21,Ym 7 22] (YR [2,4,6,7,8] [.norm [2,3,4,6]] [Yf 23 1 2,Yl 24 2 23,Yn 25 24,Ym 8 25] (Yq (.block 0 (.loop z5sb)) z8qb)))
def z5Cb:z1ka:=
 {n:=2,wr:=[],res:=[.cell 4 (some 2) 4,.t 5],body:=YR [2,3,4] [.norm [2,3,4]] [Yx 2 2 2 0,Yx 3 3 16 1,Yo 4 (.alloc 4 [i64 0,.sl (.own 16) none 0 []]),Yc 5 0] (Yq (YR [2,3,4,17] [.norm [2,3,4]] [YL 10 2 2 2,Yk 11 211 10,Yo 12 (.un .not (.s 11)),Ym 13 12,Yg 13 (Yf 14 0 2),Yg 13 (Yl 15 2 14),Yg 13 (YB 16 .eql 15 4294967296),YP 17 13 16] (Yd 17 (YR [4,5] [.norm [2,3,4]] [Yo 18 (.build [i64 0,.sl .plain none 0 []] []),Ys 2 4 4 18,Yc 5 1] .ret) (Yy [2,3,4]))) z2qb)}
def z6ob:z1c:=
 Yq (.block 1 (.region [1,2,4,5] [.norm [1,2,4]] [Yf 31 1 1,Yl 32 1 31,Ym 33 5,Yi 34 16 32 33,YJ 35 16 34,YL 36 16 4 4,YK 37 202 35 36,Ys 16 4 4 37])) (Yu [1,2,4,5] [Ym 29 5,YB 30 .sub 29 1,Ym 5 30])
def z0pb:z1c:=
 Yq (Yr [1,2,4,5,28] [Ym 27 5,YB 28 .geq 27 0] (Yd 28 (Yy [1,2,4,5]) (YY [2,4]))) z6ob
def z3ob:z1c:=
 YR [2,3] [.norm [1,2,4]] [YL 38 16 4 4,Ys 16 2 2 38,Yc 3 0] .ret
def z4sb:z1c:=
 YR [1,2,4] [.norm [1,2,4]] [Yf 15 1 1,Yl 16 1 15,Yf 17 1 1,Yl 18 1 17,Yn 19 18,YB 20 .sub 19 1,Yi 21 16 16 20,YJ 22 16 21,Yz 4 4 16,Ys 16 4 4 22] (Yq (YR [1,2,4,5] [.norm [1,2,4]] [Yf 23 1 1,Yl 24 1 23,Yn 25 24,YB 26 .sub 25 2,Ym 5 26] (.block 0 (.loop z0pb))) z3ob)
def z9pb:z1c:=
 Yq (YR [1,2,13] [.norm [1,2]] [Yf 10 1 1,Yl 11 1 10,Yn 12 11,YB 13 .eql 12 0] (Yd 13 (YR [2,3] [.norm [1,2]] [Yo 14 (.call 20 [.c (i64 1),.c (.lit (.slice none 0 0))] []),Ys 16 2 2 14,Yc 3 0] .ret) (Yy [1,2]))) z4sb
def z0Cb:z1ka:=
 {n:=1,wr:=[],res:=[.cell 2 (some 16) 2,.t 3],body:=YR [1,2] [.norm [1,2]] [Yx 1 1 2 0,Yz 2 2 16,Yc 3 0] (Yq (YR [1,2,8] [.norm [1,2]] [YL 6 2 1 1,Yk 7 211 6,Yo 8 (.un .not (.s 7))] (Yd 8 (YR [2,3] [.norm [1,2]] [Yo 9 (.build (bys (z5j 16)) []),Ys 16 2 2 9,Yc 3 1] .ret) (Yy [1,2]))) z9pb)}
def z9yb:z1ka:=
 {n:=1,wr:=[],res:=[.cell 2 (some 16) 2],body:=YR [1,2] [.norm [1,2]] [Yx 1 1 16 0,Yz 2 2 16] (YR [2] [.norm [1,2]] [YL 3 16 1 1,Yk 4 23 3,Yo 5 (.buildSl 1 1 [st []] [(0,1,.s 4)]),Yo 6 (.call 20 [.c (i64 1),.s 5] []),Ys 16 2 2 6] .ret)}
def z8xb:z1ka:=
 {n:=2,wr:=[],res:=[.cell 4 (some 16) 4],body:=YR [2,3,4] [.norm [2,3,4]] [Yx 2 2 16 0,Yx 3 3 16 1,Yz 4 4 16] (YR [4] [.norm [2,3,4]] [YL 5 16 2 2,Yk 6 23 5,YL 7 16 3 3,Yk 8 23 7,Yo 9 (.buildSl 1 2 [st [],st []] [(0,1,.s 6),(1,1,.s 8)]),Yo 10 (.call 20 [.c (i64 2),.s 9] []),Ys 16 4 4 10] .ret)}
def z2ra:z1ka:=
 {n:=1,wr:=[],res:=[.t 2],body:=YR [1] [.norm [1]] [Yx 1 1 2 0,Yw 2 false] (YR [2] [.norm [1]] [Yf 3 0 1,Yl 4 1 3,YB 5 .geq 4 0,Ym 6 5,YG 6 (Yf 7 0 1),YG 6 (Yl 8 1 7),YG 6 (YB 9 .leq 8 4294967296),Yp 10 6 9,Ym 11 10,YG 11 (Yf 12 1 1),YG 11 (Yl 13 1 12),YG 11 (Yn 14 13),YG 11 (Yf 15 0 1),YG 11 (Yl 16 1 15),YG 11 (Yk 17 214 16),YG 11 (Yb 18 .eql 14 17),Yp 19 11 18,Ym 2 19] .ret)}
def z0Ta:z1c:=
 .block 1 (Yr [0,3] [Ym 6 3,Ym 7 0,YB 8 .rem 7 2,Yb 9 .add 6 8,Ym 3 9] (Yu [0,3] [Ym 10 0,YB 11 .quo 10 2,Ym 0 11]))
def z1Ha:z1c:=
 Yq (Yr [0,3,5] [Ym 4 0,YB 5 .gtr 4 0] (Yd 5 (Yy [0,3]) (YY [3]))) z0Ta
def z1Sa:z1c:=
 Yr [2] [Ym 12 3,Ym 2 12] .ret
def z3va:z1ka:=
 {n:=1,wr:=[0],res:=[.t 2],body:=Yr [0] [Yc 2 0] (Yr [0,3] [Yc 3 0] (Yq (.block 0 (.loop z1Ha)) z1Sa))}
end Go.Abs
end

section
namespace Go.Abs
set_option maxRecDepth 100000
def z6gd:z1f:=⟨fun ds=>∃n:Int,0≤n∧n≤4294967296∧ds=[i64 n],fun ds=>i64 (oN (asI (nth ds 0)).toNat)⟩
theorem z9bd {n:Int} (h:0≤n) (h':n≤4294967296):z6gd.pre [i64 n]=True:=eq_true ⟨n,h,h',rfl⟩
@[simp] theorem z5Qc (n:Int):z6gd.post [i64 n]=i64 (oN n.toNat):=by simp[z6gd]
def hlf:Nat→Nat→Nat|n,0=>n|n,i+1=>hlf n i/2
def cnt:Nat→Nat→Nat|_,0=>0|n,i+1=>cnt n i+hlf n i% 2
theorem z76b (n:Nat):∀i,cnt n i+oN (hlf n i)=oN n
 |0=>by simp[cnt,hlf]
 |i+1=>by
  have:=z76b n i
  rw[z6u (hlf n i)] at this
  simp only[cnt,hlf];omega
theorem z2hd (n:Nat):∀i,hlf n i≤n
 |0=>Nat.le_refl _
 |i+1=>by have:=z2hd n i;simp only[hlf];omega
theorem z96c (E:Env):∀ds,z6gd.pre ds→ds.length=z3va.n∧awp E z3va.body (z4xa z3va.res (z6gd.post ds)) (z4H z3va.wr ds):=by
 rintro _ ⟨n,h0,h1,rfl⟩
 rw[z5Qc]
 obtain⟨m,rfl⟩:=Int.eq_ofNat_of_zero_le h0
 rw[Int.toNat_natCast]
 have hm:m≤4294967296:=by omega
 simp(maxSteps:=1000000) (disch:=first|omega|(simp;done)|(simp;omega)) [z6G,z8pa,z7pa,z3va]
 refine z1g fun Q0 hQ0=> ?_
 refine z1v (fun i:Nat=>⟨[],[(0,i64 (hlf m i)),(3,i64 (cnt m i))],[]⟩) (fun i=>hlf m i) (fun _=>True) 0 rfl trivial fun i hi=> ?_
 refine z1g fun Q1 hQ1=> ?_
 have hle:=z2hd m i
 have hc:=z76b m i
 have hc1:=z76b m (i+1)
 have ho:=z7Jd 33 m (by omega)
 by_cases h:0<hlf m i
 ·have hlt:(0:Int)<(hlf m i:Int):=by omega
  have et:((hlf m i:Nat):Int).tmod 2=((hlf m i% 2:Nat):Int):=rfl
  simp(maxSteps:=1000000) (disch:=first|omega|(simp;done)|(simp;omega)) [z6G,z8pa,z7pa,z1Ha,z0Ta,kT,kF,dT,dF,hlt,hQ1]
  refine⟨i+1,by simp only[hlf];omega,by simp only[hlf];omega,?_⟩
  simp only[et]
  first|(simp only[cnt];omega)|(rw[z6G (by omega) (by omega)];simp only[cnt];omega)
 ·have hz:hlf m i=0:=by omega
  rw[hz,z7K] at hc
  simp(maxSteps:=1000000) (disch:=first|omega|(simp;done)|(simp;omega)) [z6G,z8pa,z7pa,z1Ha,z1Sa,kT,kF,dT,dF,hQ1,hQ0,hz]
  omega
set_option maxHeartbeats 4000000 in
theorem z8md (E:Env) (h214:E.G 214=z6gd):∀ds,z4kc.pre ds→ds.length=z2ra.n∧awp E z2ra.body (z4xa z2ra.res (z4kc.post ds)) (z4H z2ra.wr ds):=by
 rintro _ ⟨n,nl,l,⟨hn1,hn2⟩,hl,hk,rfl⟩
 rw[show z4kc.post [pkA n nl l]=bo (okP n l.length) from z7qb hl rfl rfl]
 unfold pkA z3Ea
 by_cases h0:0≤n
 ·by_cases h1:n≤4294967296
  ·simp(maxSteps:=1000000) (disch:=first|omega|(simp;done)|(simp;omega)) [z6G,z8pa,z7pa,z2ra,h214,z9bd h0 h1,dT,dF,h0,h1]
   simp only[okP,dT h0,dT h1,Bool.true_and]
   by_cases e:l.length=oN n.toNat
   ·rw[e];simp
   ·rw[dF e];simp;omega
  ·simp(maxSteps:=1000000) (disch:=first|omega|(simp;done)|(simp;omega)) [z6G,z8pa,z7pa,z2ra,h214,dT,dF,h0,h1]
   simp only[okP,dF h1];simp
 ·simp(maxSteps:=1000000) (disch:=first|omega|(simp;done)|(simp;omega)) [z6G,z8pa,z7pa,z2ra,h214,dT,dF,h0]
  simp only[okP,dF h0];simp
/-! ### The same -/
end Go.Abs
end

section
namespace Go.Abs
set_option maxRecDepth 100000
theorem z8Zd (E:Env):∀ds,z0jd.pre ds→ds.length=z2ya.n∧awp E z2ya.body (z4xa z2ya.res (z0jd.post ds)) (z4H z2ya.wr ds):=by
 rintro _ ⟨n,lo,hi,rfl⟩
 rw[z02c]
 by_cases h1:lo≤n
 ·by_cases h2:n≤hi
  ·simp(maxSteps:=1000000) (disch:=first|omega|(simp;done)|(simp;omega)) [z6G,z8pa,z7pa,z2ya,inR,h1,h2]
  ·simp(maxSteps:=1000000) (disch:=first|omega|(simp;done)|(simp;omega)) [z6G,z8pa,z7pa,z2ya,inR,h1,h2]
 ·simp(maxSteps:=1000000) (disch:=first|omega|(simp;done)|(simp;omega)) [z6G,z8pa,z7pa,z2ya,inR,h1]
/-! ### a number in a list -/
def z63c (l:List Int) (x:Int):Nat:=l.findIdx fun y=>decide (y=x)
def z9gd (l:List Int) (x:Int):Int:=if z63c l x<l.length then(z63c l x:Int) else-1
def z87b:z1f:=⟨fun ds=>∃(nl:Option Bool) (l:List Int) (x:Int),l.length≤1000000000∧ds=[.sl .plain nl l.length (z6Ba l),i64 x],fun ds=>i64 (z9gd (gIs (gCs (nth ds 0))) (asI (nth ds 1)))⟩
theorem z2uc {nl:Option Bool} {n:Nat} {l:List Int} {x:Int} (h:l.length≤1000000000) (hn:n=l.length):z87b.pre [.sl .plain nl n (z6Ba l),i64 x]=True:=eq_true ⟨nl,l,x,h,by rw[hn]⟩
theorem z1cc (nl:Option Bool) (n:Nat) (l:List Int) (x:Int):z87b.post [.sl .plain nl n (z6Ba l),i64 x]=i64 (z9gd l x):=by simp[z87b,nth]
theorem z9Dd {l:List Int} {x:Int} {i:Nat} (hi:i<l.length) (h0:∀j<i,atI l j≠x) (h:atI l i=x):z63c l x=i:=by
 have ha:∀j (hj:j<l.length),atI l j=l[j]:=fun j hj=>by simp[atI,List.getD,List.getElem?_eq_getElem hj]
 apply Nat.le_antisymm
 ·apply Nat.le_of_not_lt
  intro hlt
  have:=List.not_of_lt_findIdx (p:=fun y=>decide (y=x)) (xs:=l) hlt
  rw[ha i hi] at h
  simp[h] at this
 ·apply Nat.le_of_not_lt
  intro hlt
  have hl:z63c l x<l.length:=by omega
  have h1:decide (l[z63c l x]=x)=true:=List.findIdx_getElem (p:=fun y=>decide (y=x)) (xs:=l) (w:=hl)
  exact h0 _ hlt (by rw[ha _ hl];exact of_decide_eq_true h1)
theorem z9sd {l:List Int} {x:Int} (h0:∀j<l.length,atI l j≠x):z63c l x=l.length:=by
 apply Nat.le_antisymm (List.findIdx_le_length)
 apply Nat.le_of_not_lt
 intro hl
 have h1:decide (l[z63c l x]=x)=true:=List.findIdx_getElem (p:=fun y=>decide (y=x)) (xs:=l) (w:=hl)
 exact h0 _ hl (by simp only[atI,List.getD,List.getElem?_eq_getElem hl];exact of_decide_eq_true h1)
theorem z1md (E:Env):∀ds,z87b.pre ds→ds.length=z2Ca.n∧awp E z2Ca.body (z4xa z2Ca.res (z87b.post ds)) (z4H z2Ca.wr ds):=by
 rintro _ ⟨nl,l,x,hl,rfl⟩
 rw[z1cc]
 simp(maxSteps:=1000000) (disch:=first|omega|(simp;done)|(simp;omega)) [z6G,z8pa,z7pa,z2Ca]
 refine z1g fun Q0 hQ0=> ?_
 refine z1v (fun i:Nat=>⟨[(0,.sl .plain nl l.length (z6Ba l)),(1,i64 x)],[(7,i64 l.length),(8,i64 i)],[]⟩)
  (fun i=>l.length-i) (fun i=>i≤l.length∧∀j<i,atI l j≠x) 0 (by simp) (by simp) fun i hi=> ?_
 obtain⟨hi,he⟩:=hi
 refine z1g fun Q1 hQ1=> ?_
 by_cases h1:i<l.length
 ·by_cases h2:x=atI l i
  ·have hp:=z9Dd h1 he h2.symm
   have hR:z9gd l x=(i:Int):=by rw[z9gd,hp,if_pos h1]
   simp(maxSteps:=1000000) (disch:=first|omega|(simp;done)|(simp;omega)) [z6G,z8pa,z7pa,z7Ja,z1Ua,kT,kF,dT,dF,z4qb,h1,h2,hQ1,hQ0]
   exact⟨by omega,by rw[←h2,hR]⟩
  ·simp(maxSteps:=1000000) (disch:=first|omega|(simp;done)|(simp;omega)) [z6G,z8pa,z7pa,z7Ja,z1Ua,kT,kF,dT,dF,z4qb,h1,h2,hQ1]
   refine⟨by omega,i+1,by omega,⟨by omega,fun j hj=> ?_⟩,by omega⟩
   ·rcases Nat.lt_or_eq_of_le (Nat.lt_succ_iff.1 hj) with h|h
    ·exact he j h
    ·rw[h];exact fun e=>h2 e.symm
 ·have hl':i=l.length:=by omega
  have hp:=z9sd (l:=l) (x:=x) (fun j hj=>he j (by omega))
  have hR:z9gd l x= -1:=by rw[z9gd,hp,if_neg (by omega)]
  simp(maxSteps:=1000000) (disch:=first|omega|(simp;done)|(simp;omega)) [z6G,z8pa,z7pa,z7Ja,kT,kF,dT,dF,h1,hQ1,hQ0,z4hb,hR]
def z5Yb:z1f:=⟨z87b.pre,fun ds=>bo (decide (asI (nth ds 1)∈gIs (gCs (nth ds 0))))⟩
theorem z76c {nl:Option Bool} {n:Nat} {l:List Int} {x:Int} (h:l.length≤1000000000) (hn:n=l.length):z5Yb.pre [.sl .plain nl n (z6Ba l),i64 x]=True:=z2uc h hn
theorem z4ic (nl:Option Bool) (n:Nat) (l:List Int) (x:Int):z5Yb.post [.sl .plain nl n (z6Ba l),i64 x]=bo (decide (x∈l)):=by simp[z5Yb,nth]
theorem z69c (l:List Int) (x:Int):decide (0≤z9gd l x)=decide (x∈l):=by
 have:z63c l x<l.length↔x∈l:=by
  rw[z63c,List.findIdx_lt_length]
  simp
 unfold z9gd
 by_cases h:x∈l
 ·rw[if_pos (this.2 h)];simp[h]
 ·rw[if_neg (fun e=>h (this.1 e))];simp[h]
theorem z0wd (E:Env) (h314:E.G 314=z87b):∀ds,z5Yb.pre ds→ds.length=z6xa.n∧awp E z6xa.body (z4xa z6xa.res (z5Yb.post ds)) (z4H z6xa.wr ds):=by
 rintro _ ⟨nl,l,x,hl,rfl⟩
 rw[z4ic,←z69c]
 simp(maxSteps:=1000000) (disch:=first|omega|(simp;done)|(simp;omega)) [z6G,z8pa,z7pa,z6xa,h314,z2uc,z1cc]
theorem z5Td (E:Env) (h312:E.G 312=z5Yb):∀ds,z0Bd.pre ds→ds.length=z6Ca.n∧awp E z6Ca.body (z4xa z6Ca.res (z0Bd.post ds)) (z4H z6Ca.wr ds):=by
 rintro _ ⟨k,rfl⟩
 rw[z61c]
 have hp:z5Yb.pre [.sl .plain (some false) 8 [i64 2,i64 4,i64 5,i64 6,i64 8,i64 10,i64 15,i64 19],i64 k]=True:=z76c (l:=[2,4,5,6,8,10,15,19]) (by simp) rfl
 have hq:z5Yb.post [.sl .plain (some false) 8 [i64 2,i64 4,i64 5,i64 6,i64 8,i64 10,i64 15,i64 19],i64 k]=bo (z1Dc k):=z4ic (some false) 8 [2,4,5,6,8,10,15,19] k
 simp(maxSteps:=1000000) (disch:=first|omega|(simp;done)|(simp;omega)) [z6G,z8pa,z7pa,z6Ca,h312,hp,hq]
/-! ### copies -/
theorem z3Bc {c:Cmd} (h:c.small):(z3xc c).small:=by
 unfold z3xc
 split
 ·exact⟨h.1,by simp,h.2.2⟩
 ·exact h
theorem z7Id (E:Env):∀ds,z7wd.pre ds→ds.length=z0Ja.n∧awp E z0Ja.body (z4xa z0Ja.res (z7wd.post ds)) (z4H z0Ja.wr ds):=by
 rintro _ ⟨t,m,rfl⟩
 rw[z18c]
 simp(maxSteps:=1000000) (disch:=first|omega|(simp;done)|(simp;omega)) [z6G,z8pa,z7pa,z0Ja,z0va,z7cc,z8u,z13a,z8za,z7za,z2Pd (a:=z5j 16) (b:=z5j 16) rfl,z69d (d:=z5j 16) rfl,or_imp,forall_and,z3gd,z29d]
 rfl
end Go.Abs
end

section
namespace Go.Abs
set_option maxRecDepth 100000
set_option maxHeartbeats 8000000 in
theorem z6od (E:Env):∀ds,z1qc.pre ds→ds.length=z2ua.n∧awp E z2ua.body (z4xa z2ua.res (z1qc.post ds)) (z4H z2ua.wr ds):=by
 rintro _ ⟨c,nl,hc,rfl⟩
 rw[z2fc]
 obtain⟨k1,k2,k3,k4,k5,k6,dt,ls⟩:=c
 by_cases hs:z1Dc k1=true
 ·have hk:z3xc ⟨k1,k2,k3,k4,k5,k6,dt,ls⟩=⟨k1,k2,k3,k4,k5,k6,[],ls⟩:=by simp[z3xc,hs]
  rw[hk]
  simp only[z1Dc,List.mem_cons,List.not_mem_nil,or_false,decide_eq_true_eq] at hs
  rcases hs with rfl|rfl|rfl|rfl|rfl|rfl|rfl|rfl<;>simp(maxSteps:=1000000) (disch:=first|omega|(simp;done)|(simp;omega)) [z6G,z8pa,z7pa,z2ua,z2Fa,z9Fa,z13a,kT,kF,z8za,z7za]
 ·have hk:z3xc ⟨k1,k2,k3,k4,k5,k6,dt,ls⟩=⟨k1,k2,k3,k4,k5,k6,dt,ls⟩:=by simp[z3xc,hs]
  rw[hk]
  simp only[z1Dc,List.mem_cons,List.not_mem_nil,or_false,decide_eq_true_eq,not_or] at hs
  obtain⟨n1,n2,n3,n4,n5,n6,n7,n8⟩:=hs
  simp(maxSteps:=1000000) (disch:=first|omega|(simp;done)|(simp;omega)) [z6G,z8pa,z7pa,z2ua,z2Fa,z9Fa,z13a,kT,kF,n1,n2,n3,n4,n5,n6,n7,n8,z8za,z7za]
end Go.Abs
end

section
namespace Go.Abs
theorem z6Mc (v:BitVec 64):IntKind.i64.wrap (v.toNat:Int)=v.toInt:=by
 have h:=v.isLt
 rw[BitVec.toInt_eq_toNat_cond]
 show(let m:=(v.toNat:Int)% 2^64;if true&&decide (2^(64-1)≤m) then m-2^64 else m)=_
 simp only[Bool.true_and,decide_eq_true_eq,show(2:Int)^(64-1)=9223372036854775808 from rfl,show(2:Int)^64=18446744073709551616 from rfl,show(2:Nat)^64=18446744073709551616 from rfl]
 have h:v.toNat<18446744073709551616:=h
 split<;>split<;>omega
theorem z79b {n:Int} (h:z2e n):(BitVec.ofInt 64 n).toInt=n:=by
 obtain⟨h1,h2⟩:=h
 rw[BitVec.toInt_ofInt]
 rw[Int.bmod_def]
 split<;>omega
theorem z3Id (x c:BitVec 64):x&&& ~~~c=0#64↔x&&&c=x:=by
 constructor
 ·intro h
  apply BitVec.eq_of_getLsbD_eq
  intro i hi
  have:=congrArg (fun v=>v.getLsbD i) h
  simp[hi] at this⊢
  exact this
 ·intro h
  apply BitVec.eq_of_getLsbD_eq
  intro i hi
  have:=congrArg (fun v=>v.getLsbD i) h
  simp[hi] at this⊢
  exact this
theorem z0Wc {n:Int} (h:z2e n):z7Sb n=(z2ed n 956==n):=by
 have e1:z8J n 956=(BitVec.ofInt 64 n&&& ~~~BitVec.ofInt 64 956).toInt:=z6Mc _
 have e2:z2ed n 956=(BitVec.ofInt 64 n&&&BitVec.ofInt 64 956).toInt:=z6Mc _
 rw[Bool.eq_iff_iff,z7Sb,beq_iff_eq,beq_iff_eq,e1,e2]
 have z:(0:Int)=(0#64:BitVec 64).toInt:=by decide
 rw[z,BitVec.toInt_inj,z3Id]
 constructor
 ·intro e;rw[e,z79b h]
 ·intro e
  have:=(BitVec.toInt_inj (x:=BitVec.ofInt 64 n&&&BitVec.ofInt 64 956) (y:=BitVec.ofInt 64 n)).1 (by rw[e,z79b h])
  exact this
end Go.Abs
end
