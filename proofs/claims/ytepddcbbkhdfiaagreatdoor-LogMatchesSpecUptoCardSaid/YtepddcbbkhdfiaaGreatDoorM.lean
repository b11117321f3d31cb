/- Lemmas: an abstract interpreter, and what the functions compute. -/
import Derived.Test.YtepddcbbkhdfiaaGreatDoorL
import Derived.Test.YtepddcbbkhdfiaaGreatDoorH
import Derived.Test.YtepddcbbkhdfiaaGreatDoorG
import Derived.Test.YtepddcbbkhdfiaaGreatDoorI
import Derived.Test.YtepddcbbkhdfiaaGreatDoorK
set_option linter.unusedSimpArgs false
set_option linter.unusedVariables false
set_option linter.unusedSectionVars false
section
namespace Go.Abs
def z7rb (nl:Option Bool) (l:List (List UInt8)):z0a:= .sl (.own 16) nl l.length (bys (dgs l))
end Go.Abs
end

section
namespace Go.Abs
set_option maxRecDepth 100000
def z4pb:z1c:=
 Yu [2,3,5,6,11,12] [Ym 40 2,Ym 41 13,Yb 42 .sub 40 41,Ym 43 3,Ym 44 13,Yb 45 .sub 43 44,Ym 2 42,Ym 3 45,Yw 12 false]
def z7qb:z1c:=
 .block 1 (Yr [2,3,5,6,11,12,13] [Ym 28 3,Yk 29 167 28,Ym 13 29] (Yr [2,3,5,6,11,12,13] [YM 30 11,Ym 31 2,Ym 32 13,Yb 33 .gtr 31 32,Yo 34 (.buildSl 1 1 [bo false] [(0,1,.s 33)]),YN 35 1 1 30 34,YM 11 35] (Yq (Yr [2,3,5,6,11,12,13,38] [Ym 36 2,Ym 37 13,Yb 38 .leq 36 37] (Yd 38 (Yr [2,3,5,6,11,12] [Ym 39 13,Ym 3 39] (.ghost (.keep [2,3,5,6,11,12]) (.exit 1))) (Yy [2,3,5,6,11,13]))) z4pb)))
def z9mb:z1c:=
 Yq (Yr [2,3,5,6,11,12,27] [Ym 25 2,Ym 26 3,Yb 27 .lss 25 26] (Yd 27 (Yy [2,3,5,6,11,12]) (YY [5,6,11,12]))) z7qb
def z5ob:z1c:=
 .region [4,5,6,11,14] [.norm [5,6,14]] [Ym 54 4,YI 55 16 54 0,YJ 56 16 55,Ym 57 4,Yo 58 (.slSl 16 (.s 57) (some (.c (i64 1))) none none),Ys 16 14 14 56,YM 4 58]
def z7nb:z1c:=
 Yq (.block 3 (YR [5,6,11,14,15,16,17,65,66,67] [.norm [5,6,14,15,17]] [Ym 69 67,Yi 70 16 65 67,YJ 71 16 70,Yz 17 17 16,Ym 16 69,Ys 16 17 17 71] (YR [5,6,11,14,15,17,65,66,67,75] [.norm [5,6,14,15,17]] [Ym 72 11,Ym 73 16,Yi 74 1 72 73,Yj 75 74] (Yd 75 (.region [5,6,11,14,15,65,66,67] [.norm [5,6,14,15,17]] [YL 76 16 17 17,YL 77 16 14 14,YK 78 169 76 77,Yk 79 165 78,YL 80 16 17 17,YL 81 16 15 15,YK 82 169 80 81,Yk 83 165 82,Ys 16 14 14 79,Ys 16 15 15 83]) (.region [5,6,11,14,15,65,66,67] [.norm [5,6,14,15,17]] [YL 84 16 15 15,YL 85 16 17 17,YK 86 169 84 85,Yk 87 165 86,Ys 16 15 15 87]))))) (.region [5,6,11,14,15,65,66,67] [.drop [17]] [YB 88 .add 67 1,Ym 67 88])
def z2rb:z1c:=
 Yr [5,6,11,14,15,65,66,67,68] [Yb 68 .lss 67 66] (Yq (Yd 68 (Yy [5,6,11,14,15,65,66,67]) (.ghost (.keep [5,6,14,15]) (.exit 2))) z7nb)
def z3pb:z1c:=
 YR [10] [.norm [5,6,14,15,17]] [YL 89 16 14 14,YL 90 16 5 5,Yo 91 (.eqF (ks8 16) false (.s 89) (.s 90)),Ym 92 91,YG 92 (YL 93 16 15 15),YG 92 (YL 94 16 6 6),YG 92 (Yo 95 (.eqF (ks8 16) false (.s 93) (.s 94))),Yp 96 92 95,Ym 10 96] .ret
def z9nb:z1c:=
 YR [4,5,6,11,14,15] [.norm [5,6,14,15]] [YL 64 16 14 14,Yz 15 15 16,Ys 16 15 15 64] (Yq (Yr [5,6,11,14,15,65,66,67] [YM 65 4,Yn 66 65,Yc 67 0] (.block 2 (.loop z2rb))) z3pb)
def z0pb:z1c:=
 Yq (Yr [4,5,6,11,14,63] [Ym 59 4,Yn 60 59,Ym 61 11,Yn 62 61,Yb 63 .neq 60 62] (Yd 63 (Yr [10] [Yw 10 false] .ret) (Yy [4,5,6,11,14]))) z9nb
def z8qb:z1c:=
 Yq (.alt (.ghost (.thaw 11 911) (.region [5,6,11,12] [.norm [5,6,911],.freeze [911]] [Ym 46 11,Yo 47 (.callw 174 none [.s 46] [(0,911)] [])])) (Yu [5,6,11,12] [Ym 46 11,Yk 47 175 46])) (.ghost (.unorg 4) (YR [4,5,6,11,12,14] [.norm [5,6,14]] [YL 48 16 5 5,Yz 14 14 16,Ys 16 14 14 48] (Yq (Yr [4,5,6,11,14,50] [Ym 49 12,YU 50 .not 49] (Yd 50 (Yq (Yr [4,5,6,11,14,53] [Ym 51 4,Yn 52 51,YB 53 .eql 52 0] (Yd 53 (Yr [10] [Yw 10 false] .ret) (Yy [4,5,6,11,14]))) z5ob) (Yy [4,5,6,11,14]))) z0pb)))
def z4ob:z1c:=
 Yr [2,3,5,6,11] [Yv 11 1] (Yr [2,3,5,6,11,12] [Yw 12 true] (Yq (.block 0 (.loop z9mb)) z8qb))
def z6vb:z1ka:=
 {n:=5,wr:=[2,3],res:=[.t 10],body:=YR [2,3,5,6] [.norm [5,6]] [Yx 5 5 16 0,Yx 6 6 16 1,Yw 10 false] (Yq (Yr [2,3,5,6,24] [Ym 18 2,YB 19 .lss 18 1,Ym 20 19,Yg 20 (Ym 21 2),Yg 20 (Ym 22 3),Yg 20 (Yb 23 .gtr 21 22),YP 24 20 23] (Yd 24 (Yr [10] [Yw 10 false] .ret) (Yy [2,3,5,6]))) z4ob)}
def z12b:z1c:=
 Yq (.block 1 (Yr [2,4,6,7,8,28,29] [Ym 31 6,Yn 32 31,YB 33 .sub 32 1,Ym 8 33] (.region [2,4,6,7,28,29] [.norm [2,3,4,7]] [Ym 34 6,Ym 35 8,YX 36 16 34 35,Ym 37 6,Ym 38 8,Yi 39 16 37 38,YJ 40 16 39,YL 41 16 7 7,YK 42 169 40 41,Yk 43 165 42,YM 6 36,Ys 16 7 7 43]))) (Yu [2,4,6,7,28,29] [YB 44 .add 29 1,Ym 29 44])
def z6wb:z1c:=
 Yr [2,4,6,7,28,29,30] [Yb 30 .lss 29 28] (Yq (Yd 30 (Yy [2,4,6,7,28,29]) (YY [2,4,6,7])) z12b)
def z8wb:z1c:=
 YR [4,5] [.norm [2,3,4,7]] [Yf 45 0 2,Yl 46 2 45,YB 47 .add 46 1,YM 48 6,YL 49 16 7 7,YQ 50 49,YN 51 16 16 48 50,Yo 52 (.build [i64 0,.sl .plain none 0 []] [(0,1,.s 47),(1,1,.s 51)]),Ys 2 4 4 52,Yc 5 0] .ret
def z7lb:z1c:=
 YR [2,4,6,7] [.norm [2,3,4,7]] [YL 21 16 3 3,Yk 22 166 21,Yk 23 165 22,Yz 7 7 16,Ys 16 7 7 23] (Yq (YR [2,4,6,7,28,29] [.norm [2,3,4,7]] [Yf 24 0 2,Yl 25 2 24,YE 26 .u64 25,YU 27 .xor 26,Yk 28 181 27,Yc 29 0] (.block 0 (.loop z6wb))) z8wb)
def z3ub:z1c:=
 Yq (.block 1 (Yr [2,4,6,7,8,28,29] [Ym 31 6,Yn 32 31,YB 33 .sub 32 1,Ym 8 33] (.region [2,4,6,7,28,29] [.norm [2,3,4,7,906]] [Ym 34 6,Ym 35 8,YX 36 16 34 35,Ym 37 6,Ym 38 8,Yi 39 16 37 38,YL 40 16 906 39,YL 41 16 7 7,YK 42 169 40 41,Yk 43 165 42,YM 6 36,Ys 16 7 7 43]))) (Yu [2,4,6,7,28,29] [YB 44 .add 29 1,Ym 29 44])
def z97a:z1c:=
 Yr [2,4,6,7,28,29,30] [Yb 30 .lss 29 28] (Yq (Yd 30 (Yy [2,4,6,7,28,29]) (YY [2,4,6,7])) z3ub)
def z6ub:z1c:=
 YR [4,5] [.norm [2,3,4,7,906],.freeze [906]] [Yf 45 0 2,Yl 46 2 45,YB 47 .add 46 1,YM 48 6,YL 49 16 7 7,YQ 50 49,Yo 51 (.appendB 16 16 false 906 none (.s 48) (.s 50)),Yo 52 (.build [i64 0,.sl .plain none 0 []] [(0,1,.s 47),(1,1,.s 51)]),Ys 2 4 4 52,Yc 5 0] .ret
def z2Wa:z1c:=
 YR [2,4,6,7] [.norm [2,3,4,7,906]] [YL 21 16 3 3,Yk 22 166 21,Yk 23 165 22,Yz 7 7 16,Ys 16 7 7 23] (Yq (YR [2,4,6,7,28,29] [.norm [2,3,4,7,906]] [Yf 24 0 2,Yl 25 2 24,YE 26 .u64 25,YU 27 .xor 26,Yk 28 181 27,Yc 29 0] (.block 0 (.loop z97a))) z6ub)
def z1fb:z1c:=
 YR [2,3,4,6] [.norm [2,3,4]] [Yf 18 1 2,Yl 19 2 18,Yk 20 180 19,YM 6 20] (.alt (.ghost (.hideB 2 1) (.ghost (.norm [2,3,4]) (.ghost (.thaw 6 906) z2Wa))) z7lb)
def z5za:z1ka:=
 {n:=2,wr:=[],res:=[.cell 4 (some 2) 4,.t 5],body:=YR [2,3,4] [.norm [2,3,4]] [Yx 2 2 2 0,Yx 3 3 16 1,Yo 4 (.alloc 4 [i64 0,.sl (.own 16) none 0 []]),Yc 5 0] (Yq (YR [2,3,4,16] [.norm [2,3,4]] [YL 9 2 2 2,Yk 10 179 9,YU 11 .not 10,Ym 12 11,Yg 12 (Yf 13 0 2),Yg 12 (Yl 14 2 13),Yg 12 (YB 15 .eql 14 4294967296),YP 16 12 15] (Yd 16 (YR [4,5] [.norm [2,3,4]] [Yo 17 (.build [i64 0,.sl .plain none 0 []] []),Ys 2 4 4 17,Yc 5 1] .ret) (Yy [2,3,4]))) z1fb)}
def z9yb:z1c:=
 .region [2,5,7] [.norm [1,2,5,7]] [Yz 7 7 16,Ys 16 7 7 31]
def z4vb:z1c:=
 .block 1 (.region [2,5] [.norm [1,2,5,7],.drop [7]] [YL 32 16 7 7,YL 33 16 5 5,YK 34 169 32 33,Yk 35 165 34,Ys 16 5 5 35])
def z4xb:z1c:=
 YR [2,3] [.norm [1,2,5,7]] [YL 36 16 5 5,Ys 16 2 2 36,Yc 3 0] .ret
def z9db:z1c:=
 YR [2,4] [.norm [1,2]] [Yf 16 1 1,Yl 17 1 16,YM 4 17] (YR [2,4,5] [.norm [1,2,5]] [Ym 18 4,Ym 19 4,Yn 20 19,YB 21 .sub 20 1,Yi 22 16 18 21,YJ 23 16 22,Yz 5 5 16,Ys 16 5 5 23] (Yq (YR [2,5,29] [.norm [1,2,5,29],.freeze [29]] [Ym 24 4,YM 25 4,Yn 26 25,YB 27 .sub 26 1,YX 28 16 24 27,Yo 29 (.callm 183 none [.s 28] [] [(1,29)])] (.block 0 (.range 184 (.s 29) [2,5] [30,31] z9yb z4vb))) z4xb))
def z1gb:z1c:=
 Yq (YR [1,2,14] [.norm [1,2]] [Yf 12 0 1,Yl 13 1 12,YB 14 .eql 13 0] (Yd 14 (YR [2,3] [.norm [1,2]] [Yo 15 (.call 168 [.c (.sl .plain (some true) 0 [])] []),Ys 16 2 2 15,Yc 3 0] .ret) (Yy [1,2]))) z9db
def z3ua:z1ka:=
 {n:=1,wr:=[],res:=[.cell 2 (some 16) 2,.t 3],body:=YR [1,2] [.norm [1,2]] [Yx 1 1 2 0,Yz 2 2 16,Yc 3 0] (Yq (YR [1,2,10] [.norm [1,2]] [YL 8 2 1 1,Yk 9 179 8,YU 10 .not 9] (Yd 10 (YR [2,3] [.norm [1,2]] [Yo 11 (.build (bys (z5j 16)) []),Ys 16 2 2 11,Yc 3 1] .ret) (Yy [1,2]))) z1gb)}
def z7jb:z1c:=
 Yr [2] [Yo 5 (.buildSl 16 0 [] []),Ym 6 0,YN 7 16 16 5 6,YM 2 7] .ret
def z4ya:z1ka:=
 {n:=1,wr:=[],res:=[.t 2],body:=Yr [] [Yv 2 16] (Yq (Yr [4] [Ym 3 0,Yo 4 (.eqnil false (.s 3) (.c (.lit (.slice none 0 0))))] (Yd 4 (Yr [2] [Yv 2 16] .ret) (Yy []))) z7jb)}
end Go.Abs
end

section
namespace Go.Abs
set_option maxRecDepth 100000
@[simp] theorem z7V (n:Nat):(z5j n).take n=z5j n:=List.take_of_length_le (by simp)
def z6nc:z1f:=⟨fun ds=>∃(nl:Option Bool) (l:List (List UInt8)),z9n l∧l.length≤1000000∧ds=[z5Aa nl l],fun ds=>z7rb none (gDs (nth ds 0))⟩
theorem z8fd {nl:Option Bool} {l:List (List UInt8)} {b:List UInt8} {n:Nat} (h:z9n l) (hl:l.length≤1000000) (hn:n=l.length) (hb:b=dgs l):z6nc.pre [.sl .plain nl n (bys b)]=True:=eq_true ⟨nl,l,h,hl,by rw[hn,hb];rfl⟩
theorem z1zb {m:z5r} {nl:Option Bool} {l:List (List UInt8)} {b:List UInt8} {n:Nat} (h:z9n l) (hn:n=l.length) (hb:b=dgs l):z6nc.post [.sl m nl n (bys b)]= .sl (.own 16) none l.length (bys (dgs l)):=by
 simp only[z6nc,z7rb]
 rw[hn,hb,show nth [z0a.sl m nl l.length (bys (dgs l))] 0=z0a.sl m nl l.length (bys (dgs l)) from rfl,z1Ea h]
def z7ee:z1f:=⟨fun ds=>z6nc.pre ds∧∀d,ds[0]? =some d→z1dc d,z6nc.post⟩
set_option maxHeartbeats 4000000 in
theorem z6Ld (E:Env):∀ds,z7ee.pre ds→ds.length=z4ya.n∧awp E z4ya.body (z6va z4ya.res (z7ee.post ds)) (z4H z4ya.wr ds):=by
 rintro _ ⟨⟨nl,l,hl,hn,rfl⟩,hk⟩
 have hk:=hk _ rfl
 rw[show z7ee.post [z5Aa nl l]=z7rb none l from z1zb hl rfl rfl]
 unfold z5Aa at*
 match nl,hk with
 |some true,hk=>
  have h0:l=[]:=List.length_eq_zero_iff.1 hk.1
  subst h0
  simp(maxSteps:=1000000) (disch:=first|omega|simp;done|simp;omega) [z7G,z8pa,z7pa,z4ya,z7rb,kT]
 |some false,_=>
  have e:=z2ua hl
  simp(maxSteps:=1000000) (disch:=first|omega|simp;done|simp;omega) [z7G,z8pa,z7pa,z4ya,z7jb,z7rb,e,kF]
  try omega
theorem z6id:∀ds d b,z6nc.pre ds→ds[0]? =some d→z6nc.pre (ds.set 0 (z2fc b d))∧z6nc.post (ds.set 0 (z2fc b d))=z6nc.post ds:=by
 rintro _ d b ⟨nl,l,hl,hn,rfl⟩ hd
 simp only[List.getElem?_cons_zero,Option.some.injEq] at hd
 subst hd
 cases nl with
 |none=>exact⟨⟨some b,l,hl,hn,rfl⟩,by rw[show [z5Aa none l].set 0 (z2fc b (z5Aa none l))=[z5Aa (some b) l] from rfl];exact(z1zb hl rfl rfl).trans (z1zb hl rfl rfl).symm⟩
 |some c=>exact⟨⟨some c,l,hl,hn,rfl⟩,rfl⟩
/-! ### valid -/
def okP (n:Int) (k:Nat):Bool:=decide (0≤n)&&decide (n≤4294967296)&&decide (k=oN n.toNat)
def pkA (n:Int) (nl:Option Bool) (l:List (List UInt8)):z0a:= .agg [i64 n,z5Aa nl l]
def gPn (d:z0a):Int:=match d with| .agg (i::_)=>asI i|_=>0
def gPl (d:z0a):List (List UInt8):=match d with| .agg [_,s]=>gDs s|_=>[]
@[simp] theorem z6Lb (n:Int) (s:z0a):gPn (.agg [i64 n,s])=n:=rfl
@[simp] theorem z3Ob (n:Int) (s:z0a):gPl (.agg [i64 n,s])=gDs s:=rfl
def inI (n:Int):Prop:= -9223372036854775808≤n∧n≤9223372036854775807
def z37b:z1f:=⟨fun ds=>∃(n:Int) (nl:Option Bool) (l:List (List UInt8)),inI n∧z9n l∧l.length≤1000000∧ds=[pkA n nl l],fun ds=>bo (okP (gPn (nth ds 0)) (gPl (nth ds 0)).length)⟩
theorem z3Ib {n:Int} {nl:Option Bool} {l:List (List UInt8)} {b:List UInt8} {k:Nat} (hn:inI n) (h:z9n l) (hl:l.length≤1000000) (hk:k=l.length) (hb:b=dgs l):z37b.pre [.agg [i64 n,.sl .plain nl k (bys b)]]=True:=eq_true ⟨n,nl,l,hn,h,hl,by rw[hk,hb];rfl⟩
theorem z9eb {n:Int} {m:z5r} {nl:Option Bool} {l:List (List UInt8)} {b:List UInt8} {k:Nat} (h:z9n l) (hk:k=l.length) (hb:b=dgs l):z37b.post [.agg [i64 n,.sl m nl k (bys b)]]=bo (okP n l.length):=by
 simp only[z37b]
 rw[hk,hb,show nth [z0a.agg [i64 n,.sl m nl l.length (bys (dgs l))]] 0=z0a.agg [i64 n,.sl m nl l.length (bys (dgs l))] from rfl,z6Lb,z3Ob,z1Ea h]
theorem z3qc {n:Int} (h0:0≤n) (h1:n<18446744073709551616):(UInt64.ofInt n).toNat=n.toNat:=by
 obtain⟨k,rfl⟩:=Int.eq_ofNat_of_zero_le h0
 show(((k:Int)% 18446744073709551616).toNat% 18446744073709551616)=k
 omega
set_option maxHeartbeats 4000000 in
theorem z1Vd (E:Env) (h188:E.G 188=z4Tb):∀ds,z37b.pre ds→ds.length=z3Aa.n∧awp E z3Aa.body (z6va z3Aa.res (z37b.post ds)) (z4H z3Aa.wr ds):=by
 rintro _ ⟨n,nl,l,⟨hn1,hn2⟩,hl,hk,rfl⟩
 rw[show z37b.post [pkA n nl l]=bo (okP n l.length) from z9eb hl rfl rfl]
 unfold pkA z5Aa
 by_cases h0:0≤n
 ·by_cases h1:n≤4294967296
  ·simp(maxSteps:=1000000) (disch:=first|omega|simp;done|simp;omega) [z7G,z8pa,z7pa,z3Aa,h188,dT,dF,h0,h1]
   rw[show(UInt64.ofInt n).toNat=n.toNat from z3qc h0 (by omega)]
   simp only[okP,dT h0,dT h1,Bool.true_and]
   by_cases e:l.length=oN n.toNat
   ·rw[e];simp
   ·rw[dF e];simp;omega
  ·simp(maxSteps:=1000000) (disch:=first|omega|simp;done|simp;omega) [z7G,z8pa,z7pa,z3Aa,h188,dT,dF,h0,h1]
   simp only[okP,dF h1];simp
 ·simp(maxSteps:=1000000) (disch:=first|omega|simp;done|simp;omega) [z7G,z8pa,z7pa,z3Aa,h188,dT,dF,h0]
  simp only[okP,dF h0];simp
end Go.Abs
end

section
namespace Go.Abs
set_option maxRecDepth 100000
def z1rc:CM:=⟨[],[1],fun ds=>∃(nl:Option Bool) (l:List (List UInt8)),z9n l∧l.length≤1000000∧ds=[z5Aa nl l],fun _=> .fn 184 [] [.bp 1 0],fun ds _=>[nth ds 0]⟩
@[simp] theorem z8he:z1rc.bx=[]:=rfl
@[simp] theorem z5he:z1rc.nb=[1]:=rfl
@[simp] theorem z7Rd (ds:List z0a):z1rc.post ds= .fn 184 [] [.bp 1 0]:=rfl
@[simp] theorem z2ee (d:z0a) (j:Nat):z1rc.out [d] j=[d]:=rfl
theorem z0ec {nl:Option Bool} {l:List (List UInt8)} {b:List UInt8} {n:Nat} (h:z9n l) (hl:l.length≤1000000) (hn:n=l.length) (hb:b=dgs l):z1rc.pre [.sl .plain nl n (bys b)]=True:=eq_true ⟨nl,l,h,hl,by rw[hn,hb];rfl⟩
set_option maxHeartbeats 4000000 in
theorem z2Wd (E:Env):∀ds p,z1rc.pre ds→ds.length=z6ta.n∧awp E z6ta.body (z8Bd z6ta.res z1rc p ds) (z7la z1rc.bx p ds):=by
 rintro _ p ⟨nl,l,hl,hn,rfl⟩
 have e:(z0b (z5Aa nl l)=true):=rfl
 simp(maxSteps:=1000000) (disch:=first|omega|simp;done|simp;omega) [z6ta,z7la,z8Bd,z5Aa]
@[simp] theorem z9be (E:Env) (l:Nat) (el:Nat→Option (List z0a)) (i:Nat) (a b:z66a) (Q:IQ) (p:Nat×Bool) (s:ASt):z0sb E l el (.seq (.block i a) b) Q p s=z0sb E l el (.block i a) (z5mc (fun p st=>z0sb E l el b Q p st) Q) p s:=rfl
theorem z1lc {E:Env} {l:Nat} {el:Nat→Option (List z0a)} {b:z66a} {Q:IQ} {p:Nat×Bool} {s:ASt} (I:Nat×Bool→ASt→Prop) (h0:I p s)
  (h:∀p s,I p s→∀Q',(∀p' s',I p' s'→p.2=false→(p'=(p.1+1,false)∨p'=(p.1,true))→Q' .normal p' s')→(∀i p' s',Q' (.exit i) p' s'=Q (.exit i) p' s')→(∀p' s',Q' .ret p' s'=Q .ret p' s')→z0sb E l el b Q' p s):z0sb E l el (.loop b) Q p s:=
 ⟨I,h0,fun p s hi=>h p s hi _ (fun p' s' h1 h2 h3=>⟨h1,h2,h3⟩) (fun _ _ _=>rfl) (fun _ _=>rfl)⟩
def gSl (d:z0a):List (List UInt8):=match d with| .ep [s]=>gDs s|_=>[]
def z1mc:ItC:=⟨fun x y=>x=[]∧∃(nl:Option Bool) (l:List (List UInt8)),z9n l∧l.length≤1000000∧y=[.ep [z5Aa nl l]],fun _ y i=>if i<(gSl (nth y 0)).length then some [i64 (((gSl (nth y 0)).length:Int)-1-i),.agg (bys (z5la (gSl (nth y 0)) ((gSl (nth y 0)).length-1-i)))] else none,[]⟩
@[simp] theorem z3he:z1mc.lv=[]:=rfl
theorem z2ac {nl:Option Bool} {l:List (List UInt8)} (h:z9n l) (i:Nat):z1mc.el [] [.ep [.sl .plain nl l.length (bys (dgs l))]] i=if i<l.length then some [i64 ((l.length:Int)-1-i),.agg (bys (z5la l (l.length-1-i)))] else none:=by
 simp only[z1mc]
 rw[show gSl (nth [z0a.ep [.sl .plain nl l.length (bys (dgs l))]] 0)=gDs (.sl .plain nl l.length (bys (dgs l))) from rfl,z1Ea h]
theorem z8Cc {nl:Option Bool} {l:List (List UInt8)} (h:z9n l) (hl:l.length≤1000000):z1mc.pre [] [.ep [.sl .plain nl l.length (bys (dgs l))]]:=⟨rfl,nl,l,h,hl,rfl⟩
set_option maxHeartbeats 4000000 in
theorem z7yd (E:Env):∀x y l,z1mc.pre x y→x.length=z0ya.nx∧y.length=z0ya.ny∧z0sb E l (z1mc.el x y) z0ya.body (itQ (z1mc.el x y)) (0,false) (z13c l [] x y):=by
 rintro _ _ ln ⟨rfl,nl,l,h16,hn,rfl⟩
 have hel:∀i,z1mc.el [] [.ep [z5Aa nl l]] i=if i<l.length then some [i64 ((l.length:Int)-1-i),.agg (bys (z5la l (l.length-1-i)))] else none:=z2ac h16
 refine⟨rfl,rfl,?_⟩
 generalize hQ:itQ (z1mc.el [] [.ep [z5Aa nl l]])=Q
 have hdone:∀p st',p.2=true→Q .normal p st':=fun p st' h=>by rw[←hQ];exact .inl h
 have hend:∀p st',l.length≤p.1→Q .normal p st':=fun p st' h=>by rw[←hQ];exact .inr (by rw[hel,if_neg (by omega)])
 have hQx:∀p st',p.2=true→Q .ret p st':=fun p st' h=>by rw[←hQ];exact .inl h
 generalize z1mc.el [] [.ep [z5Aa nl l]]=el at hel
 have hd:=z2ua h16
 unfold z5Aa
 simp(maxSteps:=1000000) (disch:=first|omega|simp;done|simp;omega) [z7G,z8pa,z7pa,z0ya,z4Za,z60a,z3Dc]
 refine z9Fc fun Q1 hQ1=> ?_
 refine z1lc (fun p st'=>p.2=false∧p.1≤l.length∧st'=⟨[(0,z0a.lit (Value.func (Fn.yield ln) #[] #[])),(1,.ep [.sl .plain nl l.length (bys (dgs l))])],[(3,i64 ((l.length:Int)-1-p.1))],[]⟩) ⟨rfl,Nat.zero_le _,by simp⟩ fun p st' ⟨hp,hk,hst⟩ Q2 h2 hx hr=> ?_
 obtain⟨i,b⟩:=p
 subst hst
 simp only at hp hk
 subst hp
 by_cases h:i<l.length
 ·have hlt:(0:Int)≤(l.length:Int)-1-i:=by omega
  have hat:=z8cb h16 (show l.length-1-i<l.length by omega)
  have e1:((l.length:Int)-1-i).toNat=l.length-1-i:=by omega
  simp(maxSteps:=1000000) (disch:=first|omega|simp;done|simp;omega) [z7G,z8pa,z7pa,z8Ka,z7Ka,kT,kF,dT,dF,hlt]
  simp(maxSteps:=1000000) (disch:=first|omega|simp;done|simp;omega) [z7G,z8pa,z7pa,z0Za,hd,e1,hat,z3Ya,z30a,hel,or_imp,forall_and,and_imp,forall_eq]
  refine⟨⟨by omega,by omega⟩,by omega,h,?_,?_⟩
  ·simp(maxSteps:=1000000) (disch:=first|omega|simp;done|simp;omega) [z7G,z8pa,z7pa,kT,kF]
   show Q2 .ret (i,true) _
   rw[hr,hQ1]
   exact hQx (i,true) _ rfl
  ·simp(maxSteps:=1000000) (disch:=first|omega|simp;done|simp;omega) [z7G,z8pa,z7pa,kT,kF]
   exact h2 (i+1,false) _ ⟨rfl,by show i+1≤l.length;omega,by simp;omega⟩ rfl (.inl rfl)
 ·have hlt:¬(0:Int)≤(l.length:Int)-1-i:=by omega
  simp(maxSteps:=1000000) (disch:=first|omega|simp;done|simp;omega) [z7G,z8pa,z7pa,z8Ka,z7Ka,kT,kF,dT,dF,hlt,hx,hQ1]
  exact hend _ _ (by show l.length≤i;omega)
end Go.Abs
end

section
namespace Go.Abs
end Go.Abs
end

section
namespace Go.Abs
@[simp] theorem z0Yd (nl:Option Bool) (l:List (List UInt8)):z3d (z7rb nl l)=[]:=rfl
@[simp] theorem z40d (nl:Option Bool) (l:List (List UInt8)):z3d (z5Aa nl l)=[]:=rfl
@[simp] theorem z4be (m:List (Nat×Nat)) (nl:Option Bool) (l:List (List UInt8)):ren m (z7rb nl l)=z7rb nl l:=rfl
@[simp] theorem z8be (m:List (Nat×Nat)) (nl:Option Bool) (l:List (List UInt8)):ren m (z5Aa nl l)=z5Aa nl l:=rfl
@[simp] theorem z6Od (nl:Option Bool) (l:List (List UInt8)):z0b (z7rb nl l)=true:=rfl
@[simp] theorem z3Od (nl:Option Bool) (l:List (List UInt8)):z0b (z5Aa nl l)=true:=rfl
end Go.Abs
end

section
namespace Go.Abs
end Go.Abs
end

section
namespace Go.Abs
attribute [local simp] z2u fnd wIn z4m z0T
def thB (b i id:Nat) (x:Option (List z0a)) (box:List (Nat×Option (List z0a))):List (Nat×Option (List z0a)):=
 match x with|some bs=>(match bs.getD i .undef with| .sl (.own e) _ n cs=>(b,some (bs.set i (.bv id e 0 n n)))::(id,some cs)::box|_=>box)|none=>box
@[simp] theorem z27 (b i id:Nat) (o e:List (Nat×z0a)) (box:List (Nat×Option (List z0a))):z1b (.thawB b i id) ⟨o,e,box⟩=⟨o,e,thB b i id (ASt.getB ⟨o,e,box⟩ b) box⟩:=by
 simp only[z1b,thB]
 split
 ·split<;>simp_all
 ·simp_all
@[simp] theorem z2na (b id e n:Nat) (nl:Option Bool) (cs:List z0a) (box:List (Nat×Option (List z0a))):thB b 0 id (some [.sl (.own e) nl n cs]) box=(b,some [.bv id e 0 n n])::(id,some cs)::box:=rfl
def thS (s id:Nat) (d:z0a) (st:ASt):ASt:=match d with| .sl (.own e) _ n cs=>{st with env:=(s,.bv id e 0 n n)::st.env,box:=(id,some cs)::st.box}|_=>st
@[simp] theorem z6la (s id:Nat) (o e:List (Nat×z0a)) (box:List (Nat×Option (List z0a))):z1b (.thaw s id) ⟨o,e,box⟩=thS s id (ASt.get ⟨o,e,box⟩ s) ⟨o,e,box⟩:=rfl
@[simp] theorem z0ga (s id k n:Nat) (nl:Option Bool) (cs:List z0a) (o e:List (Nat×z0a)) (box:List (Nat×Option (List z0a))):thS s id (.sl (.own k) nl n cs) ⟨o,e,box⟩=⟨o,(s,.bv id k 0 n n)::e,(id,some cs)::box⟩:=rfl
@[simp] theorem z0B (m:List (Nat×Nat)):∀l:List UInt8,renL m (bys l)=bys l
 |[]=>rfl
 |x::l=>by show ren m (u8 x)::renL m (bys l)=_;rw[z0B m l];rfl
@[simp] theorem z4t (ids:List Nat) (bx:Nat→List z0a):∀l:List UInt8,z6j ids bx (bys l)=bys l
 |[]=>rfl
 |x::l=>by show z9F ids bx (u8 x)::z6j ids bx (bys l)=_;rw[z4t ids bx l];rfl
@[simp] theorem z8na (id o:Nat):z5p (.bp id o)=true:=rfl
@[simp] theorem z9V:z5p .undef=true:=rfl
@[simp] theorem z08 (v:Value):z5p (.lit v)=true:=rfl
@[simp] theorem z5ma (id e o n c:Nat):z5p (.bv id e o n c)=true:=rfl
end Go.Abs
end

section
namespace Go.Abs
set_option maxRecDepth 100000
def z7Sb (l:List (List UInt8)):Nat→List UInt8
 |0=>z5la l (l.length-1)
 |i+1=>z0f 2 [z5la l (l.length-2-i),z7Sb l i]
def z06b (n:Int) (l:List (List UInt8)):List UInt8×Nat:=if okP n l.length then(if n=0 then z9ia [] else z7Sb l (l.length-1),0) else(z5j 16,1)
def z3kc:z1f:=⟨fun ds=>∃(n:Int) (nl:Option Bool) (l:List (List UInt8)),inI n∧z9n l∧l.length≤1000000∧ds=[pkA n nl l],fun ds=> .tup [.agg (bys (z06b (gPn (nth ds 0)) (gPl (nth ds 0))).1),i64 (z06b (gPn (nth ds 0)) (gPl (nth ds 0))).2]⟩
theorem z8Ac {n:Int} {nl:Option Bool} {l:List (List UInt8)} {b:List UInt8} {k:Nat} (hn:inI n) (h:z9n l) (hl:l.length≤1000000) (hk:k=l.length) (hb:b=dgs l):z3kc.pre [.agg [i64 n,.sl .plain nl k (bys b)]]=True:=eq_true ⟨n,nl,l,hn,h,hl,by rw[hk,hb];rfl⟩
theorem z2Ib {n:Int} {m:z5r} {nl:Option Bool} {l:List (List UInt8)} {b:List UInt8} {k:Nat} (h:z9n l) (hk:k=l.length) (hb:b=dgs l):z3kc.post [.agg [i64 n,.sl m nl k (bys b)]]= .tup [.agg (bys (z06b n l).1),i64 (z06b n l).2]:=by
 simp only[z3kc]
 rw[hk,hb,show nth [z0a.agg [i64 n,.sl m nl l.length (bys (dgs l))]] 0=z0a.agg [i64 n,.sl m nl l.length (bys (dgs l))] from rfl,z6Lb,z3Ob,z1Ea h]
theorem z9La {l:List (List UInt8)} (h:z9n l) (h0:0<l.length):∀i,(z7Sb l i).length=16
 |0=>z4Ga h (by omega)
 |i+1=>z0e _ _
theorem z4Sb {n:Nat} (h:0<n):0<oN n:=by
 induction n using Nat.strongRecOn with
 |ind n ih=>
  rw[z7u]
  by_cases h1:n% 2=1
  ·omega
  ·have:=ih (n/2) (by omega) (by omega);omega
set_option maxHeartbeats 8000000 in
theorem z8ge (E:Env) (h165:E.G 165=shM) (h169:E.G 169=z4Rb) (hI184:E.I 184=z1mc) (h183:E.M 183=z1rc) {n:Int} {nl:Option Bool} {l:List (List UInt8)} (hn:inI n) (hl:z9n l) (hlen:l.length≤1000000) (hpos:0<l.length) {Q0:z5c→ASt→Prop}
  (hQ0:Q0=z6va [z7M.cell 2 (some 16) 2,z7M.t 3] (z0a.tup [z0a.agg (bys (z7Sb l (l.length-1))),i64 0])):awp E z9db Q0 ⟨[(0,z0a.agg [i64 n,z0a.sl z5r.plain nl l.length (bys (dgs l))])],[(1,z0a.bp 1 0),(2,z0a.bp 2 0)],[(1,some [i64 n,z0a.sl z5r.plain nl l.length (bys (dgs l))]),(2,some (bys (z5j 16)))]⟩:=by
 have hd:=z2ua hl
 have hat:=z8cb hl (show l.length-1<l.length by omega)
 have hal:=z4Ga hl (show l.length-1<l.length by omega)
 have e1:((l.length:Int)-1).toNat=l.length-1:=by omega
 have ht:=z63a hl (l.length-1)
 unfold z9db
 rw[z4ia]
 refine z1g fun Q1 hQ1=> ?_
 simp(maxSteps:=1000000) (disch:=first|omega|simp;done|simp;omega) [z7G,z8pa,z7pa,e1,hd,hat,hal]
 rw[hQ1]
 show awp E _ _ _
 rw[z4ia]
 refine z1g fun Q2 hQ2=> ?_
 simp(maxSteps:=1000000) (disch:=first|omega|simp;done|simp;omega) [z7G,z8pa,z7pa,e1,hd,hat,hal,z9pa]
 refine⟨⟨by omega,by omega⟩,by omega,?_⟩
 rw[hQ2]
 show awp E _ _ _
 rw[z4ia]
 refine z1g fun Q3 hQ3=> ?_
 rw[z4ia]
 refine z1g fun Q4 hQ4=> ?_
 have b1:z1rc.pre [.sl .plain nl (l.length-1) (bys (dgs (l.take (l.length-1))))]=True:=z0ec (z4v hl _) (by simp;omega) (by simp) rfl
 have di:∀(ids:List Nat) (f:Nat→List z0a) (k:Int),z9F ids f (i64 k)=i64 k:=fun _ _ _=>rfl
 simp(maxSteps:=1000000) (disch:=first|omega|simp;done|simp;omega) [z7G,z8pa,z7pa,e1,hd,ht,h183,b1,di]
 refine⟨⟨by omega,by omega⟩,?_⟩
 rw[hQ4]
 show awp E _ _ _
 have hm:z9n (l.take (l.length-1)):=z4v hl _
 have hml:(l.take (l.length-1)).length=l.length-1:=by simp
 have hmat:∀i,i<l.length-1→z5la (l.take (l.length-1)) (l.length-1-1-i)=z5la l (l.length-2-i):=fun i hi=>by
  simp only[z5la,List.getD,List.getElem?_take]
  rw[if_pos (by omega),show l.length-1-1-i=l.length-2-i by omega]
 have hel:=fun i=>z2ac (nl:=nl) hm i
 rw[hml] at hel
 generalize hm0:l.take (l.length-1)=m at*
 refine z7zb [] [.ep [.sl .plain nl (l.length-1) (bys (dgs m))]] (by simp) (by simp) (by rw[hI184];rfl) (by rw[hI184];have:=z8Cc (nl:=nl) hm (by omega);rw[hml] at this;exact this) (by simp) l.length (fun i bx=>i≤l.length-1∧bx=[(1,some [i64 n,.sl .plain nl l.length (bys (dgs l))]),(2,some (bys (z5j 16))),(5,some (bys (z7Sb l i)))]) ⟨Nat.zero_le _,rfl⟩ (fun i bx h=>by omega) (fun i bx h he=> ?_) (fun i bx xs hi he=> ?_)
 ·rw[hI184,hel] at he
  obtain⟨hi,rfl⟩:=h
  split at he
  ·cases he
  ·have hii:i=l.length-1:=by omega
   subst hii
   have tl:=z9La hl hpos (l.length-1)
   have tk:=z7ta tl
   simp(maxSteps:=1000000) (disch:=first|omega|simp;done|simp;omega) [z7G,z8pa,z7pa,z3oa,z0u,hQ3,z4xb,tl,z9pa,hQ0,tk]
 ·rw[hI184,hel] at he
  obtain⟨hi,rfl⟩:=hi
  split at he
  ·rename_i hlt
   have he':=(Option.some.inj he).symm
   subst he'
   have tl:=z9La hl hpos i
   refine⟨rfl,by simp,fun V=> ?_⟩
   have al:=z4Ga hl (show l.length-2-i<l.length by omega)
   rw[hmat i hlt]
   simp(maxSteps:=1000000) (disch:=first|omega|simp;done|simp;omega) [z7G,z8pa,z7pa,z3oa,z0u,z9yb,z4vb,al,tl,z9pa,h169,h165,z82b,z2mb,z1Fc,z6E,z7ta]
   exact⟨of_eq_true (z2mb (by have:=z1Fb (t:=2) (z0dc al tl);simp only[List.length_cons,List.length_nil] at this;omega) rfl),by omega,rfl⟩
  ·cases he
set_option maxHeartbeats 8000000 in
theorem z3Zd (E:Env) (h165:E.G 165=shM) (h168:E.G 168=z2Ua) (h169:E.G 169=z4Rb) (h179:E.G 179=z37b) (hI184:E.I 184=z1mc) (h183:E.M 183=z1rc):∀ds,z3kc.pre ds→ds.length=z3ua.n∧awp E z3ua.body (z6va z3ua.res (z3kc.post ds)) (z4H z3ua.wr ds):=by
 rintro _ ⟨n,nl,l,hn,hl,hlen,rfl⟩
 rw[show z3kc.post [pkA n nl l]= .tup [.agg (bys (z06b n l).1),i64 (z06b n l).2] from z2Ib hl rfl rfl,z06b]
 unfold pkA z5Aa
 have v1:=z3Ib (nl:=nl) hn hl hlen rfl rfl
 have v2:=z9eb (n:=n) (m:= .plain) (nl:=nl) hl rfl rfl
 by_cases ho:okP n l.length=true
 ·rw[if_pos ho]
  rw[ho] at v2
  by_cases h0:n=0
  ·rw[if_pos h0]
   subst h0
   have r1:z2Ua.pre [.sl .plain (some true) 0 []]=True:=z2db (l:=[]) (b:=[]) z6z (by decide) rfl rfl
   have r2:z2Ua.post [.sl .plain (some true) 0 []]= .agg (bys (z9ia [])):=z6Oa (l:=[]) (b:=[]) z6z rfl rfl
   have rl:=z0Xa []
   simp(maxSteps:=1000000) (disch:=first|omega|simp;done|simp;omega) [z7G,z8pa,z7pa,z3ua,h179,v1,v2,kT,kF,dT,dF,z1gb,h168,r1,r2,rl,z9pa,z7ta rl]
  ·rw[if_neg h0]
   have hpos:0<l.length:=by
    simp only[okP,Bool.and_eq_true,decide_eq_true_eq] at ho
    have:=z4Sb (n:=n.toNat) (by omega)
    omega
   have hd:=z2ua hl
   have hat:=z8cb hl (show l.length-1<l.length by omega)
   have hal:=z4Ga hl (show l.length-1<l.length by omega)
   have e1:((l.length:Int)-1).toNat=l.length-1:=by omega
   have b1:z1rc.pre [.sl .plain (if l.length=1 then nl else nl) (l.length-1) (bys (dgs (l.take (l.length-1))))]=True:=z0ec (z4v hl _) (by simp;omega) (by simp) rfl
   have ht:=z63a hl (l.length-1)
   simp(maxSteps:=1000000) (disch:=first|omega|simp;done|simp;omega) [z7G,z8pa,z7pa,z3ua,h179,v1,v2,kT,kF,dT,dF,h0,z1gb]
   refine z8ge E h165 h169 hI184 h183 hn hl hlen hpos ?_
   rfl
 ·rw[if_neg ho]
  have ho':okP n l.length=false:=by simpa using ho
  rw[ho'] at v2
  simp(maxSteps:=1000000) (disch:=first|omega|simp;done|simp;omega) [z7G,z8pa,z7pa,z3ua,h179,v1,v2,kT,kF,z9pa]
end Go.Abs
end

section
namespace Go.Abs
set_option maxRecDepth 100000
def z6ja (l:List (List UInt8)) (d:List UInt8):Nat→List UInt8
 |0=>z0f 1 [d]
 |i+1=>z0f 2 [z5la l (l.length-1-i),z6ja l d i]
def z9ca (l:List (List UInt8)) (d:List UInt8) (t:Nat):List (List UInt8):=l.take (l.length-t)++[z6ja l d t]
def z5Ub (n:Int) (l:List (List UInt8)) (d:List UInt8):(Int×List (List UInt8))×Nat:=if okP n l.length=true∧n≠4294967296 then((n+1,z9ca l d (t1N n.toNat)),0) else((0,[]),1)
def z37c (n:Int) (l:List (List UInt8)):Option Bool:=if okP n l.length=true∧n≠4294967296∧0<t1N n.toNat then some false else none
def z7Jc:z1f:=⟨fun ds=>∃(n:Int) (nl:Option Bool) (l:List (List UInt8)) (d:List UInt8),inI n∧z9n l∧l.length≤1000000∧d.length=16∧ds=[pkA n nl l,.agg (bys d)],
 fun ds=> .tup [pkA (z5Ub (gPn (nth ds 0)) (gPl (nth ds 0)) (gBs (gCs (nth ds 1)))).1.1 (z37c (gPn (nth ds 0)) (gPl (nth ds 0))) (z5Ub (gPn (nth ds 0)) (gPl (nth ds 0)) (gBs (gCs (nth ds 1)))).1.2,i64 (z5Ub (gPn (nth ds 0)) (gPl (nth ds 0)) (gBs (gCs (nth ds 1)))).2]⟩
theorem z3Bc {n:Int} {nl:Option Bool} {l:List (List UInt8)} {b d:List UInt8} {k:Nat} (hn:inI n) (h:z9n l) (hl:l.length≤1000000) (hd:d.length=16) (hk:k=l.length) (hb:b=dgs l):z7Jc.pre [.agg [i64 n,.sl .plain nl k (bys b)],.agg (bys d)]=True:=eq_true ⟨n,nl,l,d,hn,h,hl,hd,by rw[hk,hb];rfl⟩
theorem z6gc {n:Int} {m:z5r} {nl:Option Bool} {l:List (List UInt8)} {b d:List UInt8} {k:Nat} (h:z9n l) (hk:k=l.length) (hb:b=dgs l):z7Jc.post [.agg [i64 n,.sl m nl k (bys b)],.agg (bys d)]= .tup [pkA (z5Ub n l d).1.1 (z37c n l) (z5Ub n l d).1.2,i64 (z5Ub n l d).2]:=by
 simp only[z7Jc]
 rw[hk,hb,show nth [z0a.agg [i64 n,.sl m nl l.length (bys (dgs l))],.agg (bys d)] 0=z0a.agg [i64 n,.sl m nl l.length (bys (dgs l))] from rfl,show gBs (gCs (nth [z0a.agg [i64 n,.sl m nl l.length (bys (dgs l))],.agg (bys d)] 1))=d from by simp[nth],z6Lb,z3Ob,z1Ea h]
theorem z2hb (l:List (List UInt8)) (d:List UInt8):∀i,(z6ja l d i).length=16
 |0=>z0e _ _
 |i+1=>z0e _ _
theorem z3Wc {l:List (List UInt8)} (h:z9n l) (d:List UInt8) (t:Nat):z9n (z9ca l d t):=z3y.2 ⟨z4v h _,z1u.2 ⟨z2hb l d t,z6z⟩⟩
theorem z1Dc {n:Int} (h0:0≤n) (h1:n≤4294967296): ~~~(UInt64.ofInt n)≠0∧tzN (~~~(UInt64.ofInt n)).toNat=t1N n.toNat:=by
 have e:=z3qc h0 (show n<18446744073709551616 by omega)
 have e2:(~~~(UInt64.ofInt n)).toNat=2^64-1-n.toNat:=by
  rw[UInt64.toNat_not,e]
 refine⟨fun h=> ?_,?_⟩
 ·have:=congrArg UInt64.toNat h
  rw[e2] at this
  change 2^64-1-n.toNat=0 at this
  omega
 ·rw[e2];exact z83d 64 _ (by omega)
abbrev z6he (n:Int) (l:List (List UInt8)) (d:List UInt8) (nl:Option Bool) (x y:z0a) (bx:List (Nat×Option (List z0a))):ASt:=
 ⟨[(0,.agg [i64 n,.sl .plain nl l.length (bys (dgs l))]),(1,.agg (bys d))],[(2,.bp 2 0),(3,.bp 3 0),(4,.bp 4 0),(6,x)],[(2,some [i64 n,y]),(3,some (bys d)),(4,some [i64 0,.sl (.own 16) none 0 []])]++bx⟩
set_option maxHeartbeats 8000000 in
theorem z7le (E:Env) (h165:E.G 165=shM) (h166:E.G 166=z5Wb) (h169:E.G 169=z4Rb) (h181:E.G 181=tzC) {n:Int} {nl:Option Bool} {l:List (List UInt8)} {d:List UInt8} (h0:0≤n) (h1:n<4294967296) (hl:z9n l) (hlen:l.length≤1000000) (hd:d.length=16) (ht:t1N n.toNat=0) {Q0:z5c→ASt→Prop}
  (hQ0:Q0=z6va [z7M.cell 4 (some 2) 4,z7M.t 5] (.tup [pkA (n+1) none (z9ca l d 0),i64 0])):awp E z7lb Q0 (z6he n l d nl (.sl (.own 16) none l.length (bys (dgs l))) (.sl .plain nl l.length (bys (dgs l))) []):=by
 obtain⟨z1,z2⟩:=z1Dc h0 (by omega)
 have fl:=z2hb l d 0
 have hdl:=z2ua hl
 unfold z7lb
 rw[z4ia]
 refine z1g fun Q1 hQ1=> ?_
 have i1:=z1Fb (t:=1) (z1u.2 ⟨hd,z6z⟩)
 simp only[List.length_cons,List.length_nil] at i1
 have sp:shM.pre [.sl .plain (some false) (z4ga 1 [d]).length (bys (z4ga 1 [d]))]=True:=z2mb (by omega) rfl
 have sl:=z7ob (z4ga 1 [d])
 simp(maxSteps:=1000000) (disch:=first|omega|simp;done|simp;omega) [z7G,z8pa,z7pa,h166,h165,z9Xb,sp,hd,z9pa,sl,z7ta]
 rw[hQ1]
 show awp E _ _ _
 rw[z4ia]
 refine z1g fun Q2 hQ2=> ?_
 rw[z4ia]
 refine z1g fun Q3 hQ3=> ?_
 obtain⟨u,hu⟩:∃u,~~~(UInt64.ofInt n)=u:=⟨_,rfl⟩
 rw[hu] at z1 z2
 have tp:tzC.pre [u64 u]=True:=z0uc z1
 simp(maxSteps:=1000000) (disch:=first|omega|simp;done|simp;omega) [z7G,z8pa,z7pa,h181,hu,tp,z2,ht]
 rw[hQ3]
 show awp E _ _ _
 refine z2v (fun i:Nat=>⟨[(0,.agg [i64 n,.sl .plain nl l.length (bys (dgs l))]),(1,.agg (bys d))],[(2,.bp 2 0),(4,.bp 4 0),(6,.sl (.own 16) none l.length (bys (dgs l))),(7,.bp 7 0),(28,i64 0),(29,i64 0)],[(2,some [i64 n,.sl .plain nl l.length (bys (dgs l))]),(3,some (bys d)),(4,some [i64 0,.sl (.own 16) none 0 []]),(7,some (bys (z6ja l d 0)))]⟩) (fun i=>0) (fun i=>True) 0 rfl trivial fun i hi=> ?_
 have tk:=z7ta fl
 have td:l.take (l.length-0)=l:=by simp
 have ea:dgs (z9ca l d 0)=dgs l++z6ja l d 0:=by rw[z9ca,td,z4Mb,z43a,z0wc,List.append_nil]
 have el:(z9ca l d 0).length=l.length+1:=by simp[z9ca]
 simp(maxSteps:=1000000) (disch:=first|omega|simp;done|simp;omega) [z7G,z8pa,z7pa,z6wb,kT,kF,dT,dF,hQ2,z8wb,fl,tk,z9pa,hdl,hQ0,pkA,z5Aa,ea,el]
 omega
abbrev z4Ld (n:Int) (l:List (List UInt8)) (d:List UInt8) (nl:Option Bool) (t i:Nat):ASt:=
 ⟨[(0,.agg [i64 n,.sl .plain nl l.length (bys (dgs l))]),(1,.agg (bys d))],[(2,.bp 2 0),(4,.bp 4 0),(6,.bv 906 16 0 (l.length-i) l.length),(7,.bp 7 0),(28,i64 t),(29,i64 i)],[(2,some [i64 n,.undef]),(3,some (bys d)),(4,some [i64 0,.sl (.own 16) none 0 []]),(7,some (bys (z6ja l d i))),(906,some (bys (dgs l)))]⟩
set_option maxHeartbeats 8000000 in
theorem z9fe (E:Env) (h165:E.G 165=shM) (h166:E.G 166=z5Wb) (h169:E.G 169=z4Rb) (h181:E.G 181=tzC) {n:Int} {nl:Option Bool} {l:List (List UInt8)} {d:List UInt8} (h0:0≤n) (h1:n<4294967296) (hl:z9n l) (hlen:l.length≤1000000) (hd:d.length=16) {t:Nat} (ht:t1N n.toNat=t) (ht0:0<t) (htl:t≤l.length) {Q0:z5c→ASt→Prop}
  (hQ0:Q0=z6va [z7M.cell 4 (some 2) 4,z7M.t 5] (.tup [pkA (n+1) (some false) (z9ca l d t),i64 0])):awp E z2Wa Q0 ⟨[(0,.agg [i64 n,.sl .plain nl l.length (bys (dgs l))]),(1,.agg (bys d))],[(6,.bv 906 16 0 l.length l.length),(2,.bp 2 0),(3,.bp 3 0),(4,.bp 4 0),(6,.sl (.own 16) none l.length (bys (dgs l)))],[(906,some (bys (dgs l))),(2,some [i64 n,.undef]),(3,some (bys d)),(4,some [i64 0,.sl (.own 16) none 0 []])]⟩:=by
 obtain⟨z1,z2⟩:=z1Dc h0 (by omega)
 have hdl:=z2ua hl
 unfold z2Wa
 rw[z4ia]
 refine z1g fun Q1 hQ1=> ?_
 have i1:=z1Fb (t:=1) (z1u.2 ⟨hd,z6z⟩)
 simp only[List.length_cons,List.length_nil] at i1
 have sp:shM.pre [.sl .plain (some false) (z4ga 1 [d]).length (bys (z4ga 1 [d]))]=True:=z2mb (by omega) rfl
 have sl:=z7ob (z4ga 1 [d])
 simp(maxSteps:=1000000) (disch:=first|omega|simp;done|simp;omega) [z7G,z8pa,z7pa,h166,h165,z9Xb,sp,hd,z9pa,sl,z7ta]
 rw[hQ1]
 show awp E _ _ _
 rw[z4ia]
 refine z1g fun Q2 hQ2=> ?_
 rw[z4ia]
 refine z1g fun Q3 hQ3=> ?_
 obtain⟨u,hu⟩:∃u,~~~(UInt64.ofInt n)=u:=⟨_,rfl⟩
 rw[hu] at z1 z2
 have tp:tzC.pre [u64 u]=True:=z0uc z1
 simp(maxSteps:=1000000) (disch:=first|omega|simp;done|simp;omega) [z7G,z8pa,z7pa,h181,hu,tp,z2,ht]
 rw[hQ3]
 show awp E _ _ _
 refine z2v (z4Ld n l d nl t) (fun i=>t-i) (fun i=>i≤t) 0 (by simp[z4Ld];rfl) (Nat.zero_le _) fun i hi=> ?_
 have fl:=z2hb l d i
 have tk:=z7ta fl
 by_cases hlt:i<t
 ·have lt':(i:Int)<t:=by omega
  have hat:=z8cb hl (show l.length-i-1<l.length by omega)
  have hal:=z4Ga hl (show l.length-i-1<l.length by omega)
  have np:=z82b hal fl
  have i2:=z1Fb (t:=2) (z0dc hal fl)
  simp only[List.length_cons,List.length_nil] at i2
  have sp2:shM.pre [.sl .plain (some false) (z4ga 2 [z5la l (l.length-i-1),z6ja l d i]).length (bys (z4ga 2 [z5la l (l.length-i-1),z6ja l d i]))]=True:=z2mb (by omega) rfl
  have sl2:=z7ob (z4ga 2 [z5la l (l.length-i-1),z6ja l d i])
  have es:z5Db (z4ga 2 [z5la l (l.length-i-1),z6ja l d i])=z6ja l d (i+1):=by rw[z6ja,show l.length-1-i=l.length-i-1 by omega];rfl
  have ei:(((l.length-i:Nat):Int)-1).toNat=l.length-i-1:=by omega
  refine z1g fun Q4 hQ4=> ?_
  simp(maxSteps:=1000000) (disch:=first|omega|simp;done|simp;omega) [z7G,z8pa,z7pa,z97a,kT,kF,dT,dF,lt',z3ub,hat,hdl,fl,tk,h169,np,h165,sp2,es,z9pa,z2hb,z7ta,ei]
  refine⟨⟨by omega,by omega⟩,⟨by omega,by omega⟩,by omega,?_⟩
  rw[hQ4]
  refine⟨i+1,by omega,by omega,?_⟩
  have fl1:=z2hb l d (i+1)
  simp[z4Ld,z9pa,fl,fl1]
  omega
 ·have lt':¬(i:Int)<t:=by omega
  have hit:i=t:=by omega
  subst hit
  have et:dgs (z9ca l d i)=dgs (l.take (l.length-i))++z6ja l d i:=by rw[z9ca,z4Mb,z43a,z0wc,List.append_nil]
  have el:(z9ca l d i).length=l.length-i+1:=by simp[z9ca]
  have edl:(dgs (z9ca l d i)).length=(l.length-i+1)*16:=by rw[z2ua (z3Wc hl d i),el]
  have ht:=z63a hl (l.length-i)
  have hs:splice (bys (dgs l)) ((l.length-i)*16) (bys (z6ja l d i))=bys (dgs (z9ca l d i)++(dgs l).drop ((l.length-i)*16+16)):=by
   rw[et,←ht]
   simp[splice,z3Oa,fl]
  have hk:∀X,List.take ((l.length-i+1)*16) (bys (dgs (z9ca l d i)++X))=bys (dgs (z9ca l d i)):=fun X=>by
   rw[z0ea,←edl,List.take_left]
  have sp0:∀a b c e:z0a,splice [a,b] 0 [c,e]=[c,e]:=fun _ _ _ _=>z9pa rfl
  have ic:∀a b c e f,z8a (.bv a b c e f)=True:=fun _ _ _ _ _=>rfl
  have cb:∀a b c e f,z4c (.bv a b c e f)=[.bv a b c e f]:=fun _ _ _ _ _=>rfl
  simp(maxSteps:=1000000) (disch:=first|omega|simp;done|simp;omega) [z7G,z8pa,z7pa,z97a,kT,kF,dT,dF,lt',hQ2]
  unfold z6ub
  rw[z4ia]
  refine z1g fun Q5 hQ5=> ?_
  rw[z1W]
  iterate 10
   first|rw[z0R,z73]|rw[z0R,z74]
   refine⟨?_,?_⟩
   ·simp(maxSteps:=30000) (disch:=first|omega|simp;done|simp;omega) [z7G,z9pa,fl,tk,cb,sp0,ic,hdl]
    try omega
   simp(maxSteps:=30000) (disch:=first|omega|simp;done|simp;omega) [z7G,z9pa,fl,tk,cb,sp0,ic,hs,-z0R]
  rw[z0R]
  refine⟨?_,?_⟩
  ·simp
  ·have di:∀(ids:List Nat) (f:Nat→List z0a) (k:Int),z9F ids f (i64 k)=i64 k:=fun _ _ _=>rfl
   have du:∀(ids:List Nat) (f:Nat→List z0a),z9F ids f .undef= .undef:=fun _ _=>rfl
   simp[hk,z9F,di,du]
   rw[hQ5]
   simp(maxSteps:=1000000) (disch:=first|omega|simp;done|simp;omega) [z7G,z8pa,z7pa,hQ0,pkA,z5Aa,el]
theorem z96d (E:Env) (h165:E.G 165=shM) (h166:E.G 166=z5Wb) (h169:E.G 169=z4Rb) (h179:E.G 179=z37b) (h180:E.G 180=z6nc) (h181:E.G 181=tzC):∀ds,z7Jc.pre ds→ds.length=z5za.n∧awp E z5za.body (z6va z5za.res (z7Jc.post ds)) (z4H z5za.wr ds):=by
 rintro _ ⟨n,nl,l,d,hn,hl,hlen,hd,rfl⟩
 rw[show z7Jc.post [pkA n nl l,.agg (bys d)]= .tup [pkA (z5Ub n l d).1.1 (z37c n l) (z5Ub n l d).1.2,i64 (z5Ub n l d).2] from z6gc hl rfl rfl,z5Ub,z37c]
 unfold pkA z5Aa
 have v1:=z3Ib (nl:=nl) hn hl hlen rfl rfl
 have v2:=z9eb (n:=n) (m:= .plain) (nl:=nl) hl rfl rfl
 have c1:=z8fd (nl:=nl) hl hlen rfl rfl
 have c2:=z1zb (m:= .plain) (nl:=nl) hl rfl rfl
 have hk:okP n l.length=false∨okP n l.length=true:=by cases okP n l.length<;>simp
 rcases hk with ho|ho
 ·rw[ho] at v2
  have x1:¬(okP n l.length=true∧n≠4294967296):=by simp[ho]
  have x2:¬(okP n l.length=true∧n≠4294967296∧0<t1N n.toNat):=by simp[ho]
  rw[if_neg x1,if_neg x2]
  simp(maxSteps:=1000000) (disch:=first|omega|simp;done|simp;omega) [z7G,z8pa,z7pa,z5za,h179,v1,v2,kT,kF,hd,z9pa]
  skip
 ·rw[ho] at v2
  by_cases h2:n=4294967296
  ·have x1:¬(okP n l.length=true∧n≠4294967296):=by simp[h2]
   have x2:¬(okP n l.length=true∧n≠4294967296∧0<t1N n.toNat):=by simp[h2]
   rw[if_neg x1,if_neg x2]
   subst h2
   simp(maxSteps:=1000000) (disch:=first|omega|simp;done|simp;omega) [z7G,z8pa,z7pa,z5za,h179,v1,v2,kT,kF,hd,z9pa]
   skip
  ·obtain⟨g0,g1,g2⟩:0≤n∧n<4294967296∧l.length=oN n.toNat:=by
    simp only[okP,Bool.and_eq_true,decide_eq_true_eq] at ho
    exact⟨ho.1.1,by omega,ho.2⟩
   have gt:=z3u n.toNat
   have hbF:(n==4294967296)=false:=by simpa using h2
   by_cases h3:0<t1N n.toNat
   ·rw[if_pos ⟨ho,h2⟩,if_pos ⟨ho,h2,h3⟩]
    simp(maxSteps:=1000000) (disch:=first|omega|simp;done|simp;omega) [z7G,z8pa,z7pa,z5za,h179,v1,v2,kT,kF,hd,z9pa,hbF,dF,h2,z1fb,h180,c1,c2]
    refine .inl ?_
    have lp:0<l.length:=by omega
    have ar:=z9fe E h165 h166 h169 h181 (nl:=nl) g0 g1 hl hlen hd rfl h3 (by omega) rfl
    generalize z2Wa=tq at*
    simp(maxSteps:=1000000) (disch:=first|omega|simp;done|simp;omega) [z7G,z8pa,z7pa,lp]
    refine⟨⟨rfl,fun c hc=> ?_,rfl,rfl⟩,ar⟩
    simp only[bys,List.mem_map] at hc
    obtain⟨x,_,rfl⟩:=hc
    rfl
   ·rw[if_pos ⟨ho,h2⟩,if_neg (fun h=>h3 h.2.2)]
    have h30:t1N n.toNat=0:=by omega
    rw[h30]
    simp(maxSteps:=1000000) (disch:=first|omega|simp;done|simp;omega) [z7G,z8pa,z7pa,z5za,h179,v1,v2,kT,kF,hd,z9pa,hbF,dF,h2,z1fb,h180,c1,c2]
    refine .inr ?_
    exact z7le E h165 h166 h169 h181 g0 g1 hl hlen hd h30 rfl
end Go.Abs
end

section
namespace Go.Abs
end Go.Abs
end

section
namespace Go.Abs
def z6ra (l:List z2n):List z0a:=l.flatMap (z7va none none none)
def z2vb (l:List z2n):Prop:=∀x∈l,x.small
def z5sa (nl:Option Bool) (l:List z2n):z0a:= .sl .plain nl l.length (z6ra l)
theorem z04b (a b:List z2n):z6ra (a++b)=z6ra a++z6ra b:=List.flatMap_append
theorem z8Wb (x:z2n):z6ra [x]=z7va none none none x:=by simp[z6ra]
theorem z5vb {x:z2n} (h:x.small):(z7va none none none x).length=30:=z5Oa h.1.2.2.2.2.2.1
theorem z4ta {l:List z2n} (h:z2vb l):(z6ra l).length=l.length*30:=by
 induction l with
 |nil=>rfl
 |cons a l ih=>
  have:=ih fun m hm=>h m (by simp[hm])
  rw[z6ra] at this⊢
  rw[List.flatMap_cons,List.length_append,this,z5vb (h a (by simp)),List.length_cons];omega
theorem z8Ab {l:List z2n} (h:z2vb l) {i:Nat} (hi:i<l.length):((z6ra l).drop (i*30)).take 30=z7va none none none l[i]:=by
 have e1:=z9sb (enc:=z7va none none none) (P:=z2n.small) (w:=30) (fun a ha=>z5vb ha) l i h
 rw[show z6ra l=l.flatMap (z7va none none none) from rfl,e1,List.drop_eq_getElem_cons hi,List.flatMap_cons,List.take_left' (z5vb (h _ (List.getElem_mem hi)))]
theorem z0cb {l:List z2n} (h:z2vb l) (i:Nat):(z6ra l).drop (i*30)=z6ra (l.drop i):=z9sb (enc:=z7va none none none) (P:=z2n.small) (w:=30) (fun a ha=>z5vb ha) l i h
theorem z9zb {l:List z2n} (h:z2vb l) (i:Nat):(z6ra l).take (i*30)=z6ra (l.take i):=by
 have h1:z2vb (l.take i):=fun x hx=>h x (List.mem_of_mem_take hx)
 by_cases hi:i≤l.length
 ·conv=>lhs;rw[←List.take_append_drop i l,z04b]
  rw[List.take_left' (by rw[z4ta h1,List.length_take];congr 1;omega)]
 ·rw[List.take_of_length_le (by rw[z4ta h];exact Nat.mul_le_mul_right _ (by omega)),List.take_of_length_le (by omega)]
@[simp] theorem z3Pd (l:List z2n):z8b (z6ra l)=true:=by
 refine(z4i _).2 fun c hc=> ?_
 obtain⟨m,_,h⟩:=List.mem_flatMap.1 hc
 exact(z4i _).1 (z6Vc none none none m) c h
def z7vb (n:Nat) (cs:List z0a):List z2n:=gLw 30 z2gc n cs
theorem z5ib {l:List z2n} (h:z2vb l):z7vb l.length (z6ra l)=l:=z91c (enc:=z7va none none none) (P:=z2n.small) (fun a ha=>z5vb ha) (fun a ha=>z3wc ha) l h
/-! ### logs -/
structure z0n where
 size:Nat
 roots:List (List UInt8)
 ents:List z2n
def z4Ca (nr ne:Option Bool) (l:z0n):z0a:= .agg [i64 l.size,z5Aa nr l.roots,z5sa ne l.ents]
def z5Cb (d:z0a):z0n:=match d with| .agg [a,b,c]=>⟨(asI a).toNat,gDs b,z7vb (gNn c) (gCs c)⟩|_=>⟨0,[],[]⟩
structure z0n.ok (l:z0n):Prop where
 r:z9n l.roots
 o:l.roots.length=oN l.size
 e:z2vb l.ents
 n:l.ents.length≤1000
 s:l.size+l.ents.length≤62000
def z0n.len (l:z0n):Nat:=l.size+l.ents.length
theorem z7Gb {nr ne:Option Bool} {l:z0n} (h:l.ok):z5Cb (z4Ca nr ne l)=l:=by
 simp only[z5Cb,z4Ca,z5Aa,z5sa,gNn,gCs,z5ib h.e,z1Ea h.r]
 simp
def z3h (l:List z2n):List (List UInt8):=l.map fun x=>z0f 8 [z9Db x]
theorem z3Vb (l:List z2n):z9n (z3h l):=fun d hd=>by
 obtain⟨x,_,rfl⟩:=List.mem_map.1 hd
 exact z0e _ _
def z7mb:z1f:=⟨fun ds=>∃(nr ne:Option Bool) (l:z0n),l.ok∧ds=[z4Ca nr ne l],fun ds=>i64 ((z5Cb (nth ds 0)).len:Int)⟩
theorem z3fb {nr ne:Option Bool} {l:z0n} (h:l.ok):z7mb.pre [z4Ca nr ne l]=True:=eq_true ⟨nr,ne,l,h,rfl⟩
theorem z1Oa {nr ne:Option Bool} {l:z0n} (h:l.ok):z7mb.post [z4Ca nr ne l]=i64 (l.len:Int):=by
 show i64 ((z5Cb (z4Ca nr ne l)).len:Int)=_
 rw[z7Gb h]
def z1jc:z1f:=⟨fun ds=>∃(nl:Option Bool) (l:List z2n),z2vb l∧l.length≤1000000∧ds=[z5sa nl l],fun ds=>match nth ds 0 with| .sl _ nl n cs=> .sl .clip nl n cs|_=> .undef⟩
def z2Cb:z1f:=⟨fun ds=>∃(nl:Option Bool) (n:Nat) (cs:List z0a),cs.length=n*30∧(∀c∈cs,z0b c=true∧z8a c)∧n≤1000000∧ds=[.sl .plain nl n cs],fun ds=>match nth ds 0 with| .sl _ _ n cs=> .sl (.own 30) none n cs|_=> .undef⟩
def z9Kb (l:z0n) (x:z2n):z0n×Nat:=if okE x=false then(⟨0,[],[]⟩,1) else if l.ents.length>0∧x.time<(l.ents.getLastD x).time then(⟨0,[],[]⟩,20) else(⟨l.size,l.roots,l.ents++[x]⟩,0)
end Go.Abs
end
