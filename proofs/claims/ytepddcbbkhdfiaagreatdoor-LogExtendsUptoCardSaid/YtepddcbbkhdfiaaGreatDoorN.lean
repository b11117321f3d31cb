/- Lemmas: an abstract interpreter, and what the functions compute. -/
import Derived.Test.YtepddcbbkhdfiaaGreatDoorM
import Derived.Test.YtepddcbbkhdfiaaGreatDoorI
import Derived.Test.YtepddcbbkhdfiaaGreatDoorG
import Derived.Test.YtepddcbbkhdfiaaGreatDoorK
import Derived.Test.YtepddcbbkhdfiaaGreatDoorL
set_option linter.unusedSimpArgs false
set_option linter.unusedVariables false
set_option linter.unusedSectionVars false
section
namespace Go.Abs
def z2Fa (nl:Option Bool) (l:List (List UInt8)):z2a:= .sl (.own 16) nl l.length (bys (dgs l))
end Go.Abs
end

section
namespace Go.Abs
set_option maxRecDepth 100000
def z1fa:z3a:=
 Yu [2,3,5,6,11,12] [Ym 40 2,Ym 41 13,Yb 42 .sub 40 41,Ym 43 3,Ym 44 13,Yb 45 .sub 43 44,Ym 2 42,Ym 3 45,Yw 12 false]
def z4ca:z3a:=
 .block 1 (Yr [2,3,5,6,11,12,13] [Ym 28 3,Yk 29 167 28,Ym 13 29] (Yr [2,3,5,6,11,12,13] [YM 30 11,Ym 31 2,Ym 32 13,Yb 33 .gtr 31 32,Yo 34 (.buildSl 1 1 [bo false] [(0,1,.s 33)]),Yo 35 (.append 1 1 false none none 30 (.s 34)),YM 11 35] (Yq (Yr [2,3,5,6,11,12,13,38] [Ym 36 2,Ym 37 13,Yb 38 .leq 36 37] (Yd 38 (Yr [2,3,5,6,11,12] [Ym 39 13,Ym 3 39] (.ghost (.keep [2,3,5,6,11,12]) (.exit 1))) (Yy [2,3,5,6,11,13]))) z1fa)))
def z7da:z3a:=
 Yq (Yr [2,3,5,6,11,12,27] [Ym 25 2,Ym 26 3,Yb 27 .lss 25 26] (Yd 27 (Yy [2,3,5,6,11,12]) (YY [5,6,11,12]))) z4ca
def z1ba:z3a:=
 .region [4,5,6,11,14] [.norm [5,6,14]] [Ym 54 4,Yo 55 (.idxSl 16 (.s 54) (.c (i64 0))),YJ 56 16 55,Ym 57 4,Yo 58 (.slSl 16 (.s 57) (some (.c (i64 1))) none none),Ys 16 14 14 56,YM 4 58]
def z9ca:z3a:=
 Yq (.block 3 (YR [5,6,11,14,15,16,17,65,66,67] [.norm [5,6,14,15,17]] [Ym 69 67,Yi 70 16 65 67,YJ 71 16 70,Yz 17 17 16,Ym 16 69,Ys 16 17 17 71] (YR [5,6,11,14,15,17,65,66,67,75] [.norm [5,6,14,15,17]] [Ym 72 11,Ym 73 16,Yi 74 1 72 73,Yj 75 74] (Yd 75 (.region [5,6,11,14,15,65,66,67] [.norm [5,6,14,15,17]] [YL 76 16 17 17,YL 77 16 14 14,YK 78 169 76 77,Yk 79 165 78,YL 80 16 17 17,YL 81 16 15 15,YK 82 169 80 81,Yk 83 165 82,Ys 16 14 14 79,Ys 16 15 15 83]) (.region [5,6,11,14,15,65,66,67] [.norm [5,6,14,15,17]] [YL 84 16 15 15,YL 85 16 17 17,YK 86 169 84 85,Yk 87 165 86,Ys 16 15 15 87]))))) (.region [5,6,11,14,15,65,66,67] [.drop [17]] [YB 88 .add 67 1,Ym 67 88])
def z0da:z3a:=
 Yr [5,6,11,14,15,65,66,67,68] [Yb 68 .lss 67 66] (Yq (Yd 68 (Yy [5,6,11,14,15,65,66,67]) (.ghost (.keep [5,6,14,15]) (.exit 2))) z9ca)
def z7aa:z3a:=
 YR [10] [.norm [5,6,14,15,17]] [YL 89 16 14 14,YL 90 16 5 5,Yo 91 (.eqF (ks8 16) false (.s 89) (.s 90)),Ym 92 91,YG 92 (YL 93 16 15 15),YG 92 (YL 94 16 6 6),YG 92 (Yo 95 (.eqF (ks8 16) false (.s 93) (.s 94))),Yp 96 92 95,Ym 10 96] .ret
def z5aa:z3a:=
 YR [4,5,6,11,14,15] [.norm [5,6,14,15]] [YL 64 16 14 14,Yz 15 15 16,Ys 16 15 15 64] (Yq (Yr [5,6,11,14,15,65,66,67] [YM 65 4,Yn 66 65,Yc 67 0] (.block 2 (.loop z0da))) z7aa)
def z7ca:z3a:=
 Yq (Yr [4,5,6,11,14,63] [Ym 59 4,Yn 60 59,Ym 61 11,Yn 62 61,Yb 63 .neq 60 62] (Yd 63 (Yr [10] [Yw 10 false] .ret) (Yy [4,5,6,11,14]))) z5aa
def z89:z3a:=
 Yq (.alt (.ghost (.thaw 11 911) (.region [5,6,11,12] [.norm [5,6,911],.freeze [911]] [Ym 46 11,Yo 47 (.callw 174 none [.s 46] [(0,911)] [])])) (Yu [5,6,11,12] [Ym 46 11,Yk 47 175 46])) (.ghost (.unorg 4) (YR [4,5,6,11,12,14] [.norm [5,6,14]] [YL 48 16 5 5,Yz 14 14 16,Ys 16 14 14 48] (Yq (Yr [4,5,6,11,14,50] [Ym 49 12,Yo 50 (.un .not (.s 49))] (Yd 50 (Yq (Yr [4,5,6,11,14,53] [Ym 51 4,Yn 52 51,YB 53 .eql 52 0] (Yd 53 (Yr [10] [Yw 10 false] .ret) (Yy [4,5,6,11,14]))) z1ba) (Yy [4,5,6,11,14]))) z7ca)))
def z3ea:z3a:=
 Yr [2,3,5,6,11] [Yo 11 (.mv true (.c (.sl (.own 1) none 0 [])))] (Yr [2,3,5,6,11,12] [Yw 12 true] (Yq (.block 0 (.loop z7da)) z89))
def z7oa:z6e:=
 {n:=5,wr:=[2,3],res:=[.t 10],body:=YR [2,3,5,6] [.norm [5,6]] [Yx 5 5 16 0,Yx 6 6 16 1,Yw 10 false] (Yq (Yr [2,3,5,6,24] [Ym 18 2,YB 19 .lss 18 1,Ym 20 19,Yg 20 (Ym 21 2),Yg 20 (Ym 22 3),Yg 20 (Yb 23 .gtr 21 22),YP 24 20 23] (Yd 24 (Yr [10] [Yw 10 false] .ret) (Yy [2,3,5,6]))) z3ea)}
def z4Ua:z3a:=
 Yq (.block 1 (Yr [2,4,6,7,8,28,29] [Ym 31 6,Yn 32 31,YB 33 .sub 32 1,Ym 8 33] (.region [2,4,6,7,28,29] [.norm [2,3,4,7]] [Ym 34 6,Ym 35 8,Yo 36 (.slSl 16 (.s 34) none (some (.s 35)) none),Ym 37 6,Ym 38 8,Yi 39 16 37 38,YJ 40 16 39,YL 41 16 7 7,YK 42 169 40 41,Yk 43 165 42,YM 6 36,Ys 16 7 7 43]))) (Yu [2,4,6,7,28,29] [YB 44 .add 29 1,Ym 29 44])
def z1pa:z3a:=
 Yr [2,4,6,7,28,29,30] [Yb 30 .lss 29 28] (Yq (Yd 30 (Yy [2,4,6,7,28,29]) (YY [2,4,6,7])) z4Ua)
def z0qa:z3a:=
 YR [4,5] [.norm [2,3,4,7]] [Yf 45 0 2,Yl 46 2 45,YB 47 .add 46 1,YM 48 6,YL 49 16 7 7,Yo 50 (.buildSl 16 1 (bys (z9c 16)) [(0,16,.s 49)]),Yo 51 (.append 16 16 false none none 48 (.s 50)),Yo 52 (.build [i64 0,.sl .plain none 0 []] [(0,1,.s 47),(1,1,.s 51)]),Ys 2 4 4 52,Yc 5 0] .ret
def z77:z3a:=
 YR [2,4,6,7] [.norm [2,3,4,7]] [YL 21 16 3 3,Yk 22 166 21,Yk 23 165 22,Yz 7 7 16,Ys 16 7 7 23] (Yq (YR [2,4,6,7,28,29] [.norm [2,3,4,7]] [Yf 24 0 2,Yl 25 2 24,Yo 26 (.toInt .u64 (.s 25)),Yo 27 (.un .xor (.s 26)),Yk 28 181 27,Yc 29 0] (.block 0 (.loop z1pa))) z0qa)
def z8ia:z3a:=
 Yq (.block 1 (Yr [2,4,6,7,8,28,29] [Ym 31 6,Yn 32 31,YB 33 .sub 32 1,Ym 8 33] (.region [2,4,6,7,28,29] [.norm [2,3,4,7,906]] [Ym 34 6,Ym 35 8,Yo 36 (.slSl 16 (.s 34) none (some (.s 35)) none),Ym 37 6,Ym 38 8,Yi 39 16 37 38,YL 40 16 906 39,YL 41 16 7 7,YK 42 169 40 41,Yk 43 165 42,YM 6 36,Ys 16 7 7 43]))) (Yu [2,4,6,7,28,29] [YB 44 .add 29 1,Ym 29 44])
def z6S:z3a:=
 Yr [2,4,6,7,28,29,30] [Yb 30 .lss 29 28] (Yq (Yd 30 (Yy [2,4,6,7,28,29]) (YY [2,4,6,7])) z8ia)
def z2ja:z3a:=
 YR [4,5] [.norm [2,3,4,7,906],.freeze [906]] [Yf 45 0 2,Yl 46 2 45,YB 47 .add 46 1,YM 48 6,YL 49 16 7 7,Yo 50 (.buildSl 16 1 (bys (z9c 16)) [(0,16,.s 49)]),Yo 51 (.appendB 16 16 false 906 none (.s 48) (.s 50)),Yo 52 (.build [i64 0,.sl .plain none 0 []] [(0,1,.s 47),(1,1,.s 51)]),Ys 2 4 4 52,Yc 5 0] .ret
def z8F:z3a:=
 YR [2,4,6,7] [.norm [2,3,4,7,906]] [YL 21 16 3 3,Yk 22 166 21,Yk 23 165 22,Yz 7 7 16,Ys 16 7 7 23] (Yq (YR [2,4,6,7,28,29] [.norm [2,3,4,7,906]] [Yf 24 0 2,Yl 25 2 24,Yo 26 (.toInt .u64 (.s 25)),Yo 27 (.un .xor (.s 26)),Yk 28 181 27,Yc 29 0] (.block 0 (.loop z6S))) z2ja)
def z90:z3a:=
 YR [2,3,4,6] [.norm [2,3,4]] [Yf 18 1 2,Yl 19 2 18,Yk 20 180 19,YM 6 20] (.alt (.ghost (.hideB 2 1) (.ghost (.norm [2,3,4]) (.ghost (.thaw 6 906) z8F))) z77)
def z2l:z6e:=
 {n:=2,wr:=[],res:=[.cell 4 (some 2) 4,.t 5],body:=YR [2,3,4] [.norm [2,3,4]] [Yx 2 2 2 0,Yx 3 3 16 1,Yo 4 (.alloc 4 [i64 0,.sl (.own 16) none 0 []]),Yc 5 0] (Yq (YR [2,3,4,16] [.norm [2,3,4]] [YL 9 2 2 2,Yk 10 179 9,Yo 11 (.un .not (.s 10)),Ym 12 11,Yg 12 (Yf 13 0 2),Yg 12 (Yl 14 2 13),Yg 12 (YB 15 .eql 14 4294967296),YP 16 12 15] (Yd 16 (YR [4,5] [.norm [2,3,4]] [Yo 17 (.build [i64 0,.sl .plain none 0 []] []),Ys 2 4 4 17,Yc 5 1] .ret) (Yy [2,3,4]))) z90)}
def z8ra:z3a:=
 .region [2,5,7] [.norm [1,2,5,7]] [Yz 7 7 16,Ys 16 7 7 31]
def z2oa:z3a:=
 .block 1 (.region [2,5] [.norm [1,2,5,7],.drop [7]] [YL 32 16 7 7,YL 33 16 5 5,YK 34 169 32 33,Yk 35 165 34,Ys 16 5 5 35])
def z3oa:z3a:=
 YR [2,3] [.norm [1,2,5,7]] [YL 36 16 5 5,Ys 16 2 2 36,Yc 3 0] .ret
def z41:z3a:=
 YR [2,4] [.norm [1,2]] [Yf 16 1 1,Yl 17 1 16,YM 4 17] (YR [2,4,5] [.norm [1,2,5]] [Ym 18 4,Ym 19 4,Yn 20 19,YB 21 .sub 20 1,Yi 22 16 18 21,YJ 23 16 22,Yz 5 5 16,Ys 16 5 5 23] (Yq (YR [2,5,29] [.norm [1,2,5,29],.freeze [29]] [Ym 24 4,YM 25 4,Yn 26 25,YB 27 .sub 26 1,Yo 28 (.slSl 16 (.s 24) none (some (.s 27)) none),Yo 29 (.callm 183 none [.s 28] [] [(1,29)])] (.block 0 (.range 184 (.s 29) [2,5] [30,31] z8ra z2oa))) z3oa))
def z7X:z3a:=
 Yq (YR [1,2,14] [.norm [1,2]] [Yf 12 0 1,Yl 13 1 12,YB 14 .eql 13 0] (Yd 14 (YR [2,3] [.norm [1,2]] [Yo 15 (.call 168 [.c (.sl .plain (some true) 0 [])] []),Ys 16 2 2 15,Yc 3 0] .ret) (Yy [1,2]))) z41
def z2g:z6e:=
 {n:=1,wr:=[],res:=[.cell 2 (some 16) 2,.t 3],body:=YR [1,2] [.norm [1,2]] [Yx 1 1 2 0,Yz 2 2 16,Yc 3 0] (Yq (YR [1,2,10] [.norm [1,2]] [YL 8 2 1 1,Yk 9 179 8,Yo 10 (.un .not (.s 9))] (Yd 10 (YR [2,3] [.norm [1,2]] [Yo 11 (.build (bys (z9c 16)) []),Ys 16 2 2 11,Yc 3 1] .ret) (Yy [1,2]))) z7X)}
def z92:z3a:=
 Yr [2] [Yo 5 (.buildSl 16 0 [] []),Ym 6 0,Yo 7 (.append 16 16 false none none 5 (.s 6)),YM 2 7] .ret
def z4k:z6e:=
 {n:=1,wr:=[],res:=[.t 2],body:=Yr [] [Yo 2 (.mv true (.c (.sl (.own 16) none 0 [])))] (Yq (Yr [4] [Ym 3 0,Yo 4 (.eqnil false (.s 3) (.c (.lit (.slice none 0 0))))] (Yd 4 (Yr [2] [Yo 2 (.mv true (.c (.sl (.own 16) none 0 [])))] .ret) (Yy []))) z92)}
end Go.Abs
end

section
namespace Go.Abs
set_option maxRecDepth 100000
@[simp] theorem z8nd (n:Nat):(z9c n).take n=z9c n:=List.take_of_length_le (by simp)
def z2ib:z5a:=⟨fun ds=>∃(nl:Option Bool) (l:List (List UInt8)),z2p l∧l.length≤1000000∧ds=[z5w nl l],fun ds=>z2Fa none (gDs (nth ds 0))⟩
theorem z2nc {nl:Option Bool} {l:List (List UInt8)} {b:List UInt8} {n:Nat} (h:z2p l) (hl:l.length≤1000000) (hn:n=l.length) (hb:b=dgs l):z2ib.pre [.sl .plain nl n (bys b)]=True:=eq_true ⟨nl,l,h,hl,by rw[hn,hb];rfl⟩
theorem z2pa {m:z0ka} {nl:Option Bool} {l:List (List UInt8)} {b:List UInt8} {n:Nat} (h:z2p l) (hn:n=l.length) (hb:b=dgs l):z2ib.post [.sl m nl n (bys b)]= .sl (.own 16) none l.length (bys (dgs l)):=by
 simp only[z2ib,z2Fa]
 rw[hn,hb,show nth [z2a.sl m nl l.length (bys (dgs l))] 0=z2a.sl m nl l.length (bys (dgs l)) from rfl,z8A h]
def z8Qd:z5a:=⟨fun ds=>z2ib.pre ds∧∀d,ds[0]? =some d→z3db d,z2ib.post⟩
set_option maxHeartbeats 4000000 in
theorem z3Vc (E:Env):∀ds,z8Qd.pre ds→ds.length=z4k.n∧awp E z4k.body (z0m z4k.res (z8Qd.post ds)) (z3b z4k.wr ds):=by
 rintro _ ⟨⟨nl,l,hl,hn,rfl⟩,hk⟩
 have hk:=hk _ rfl
 rw[show z8Qd.post [z5w nl l]=z2Fa none l from z2pa hl rfl rfl]
 unfold z5w at*
 match nl,hk with
 |some true,hk=>
  have h0:l=[]:=List.length_eq_zero_iff.1 hk.1
  subst h0
  simp(maxSteps:=1000000) (disch:=first|omega|(simp;done)|(simp;omega)) [z9a,z1a,z0a,z4k,z2Fa,kT]
 |some false,_=>
  have e:=z0q hl
  simp(maxSteps:=1000000) (disch:=first|omega|(simp;done)|(simp;omega)) [z9a,z1a,z0a,z4k,z92,z2Fa,e,kF]
  try omega
theorem z8jc:∀ds d b,z2ib.pre ds→ds[0]? =some d→z2ib.pre (ds.set 0 (z3ab b d))∧z2ib.post (ds.set 0 (z3ab b d))=z2ib.post ds:=by
 rintro _ d b ⟨nl,l,hl,hn,rfl⟩ hd
 simp only[List.getElem?_cons_zero,Option.some.injEq] at hd
 subst hd
 cases nl with
 |none=>exact⟨⟨some b,l,hl,hn,rfl⟩,by rw[show [z5w none l].set 0 (z3ab b (z5w none l))=[z5w (some b) l] from rfl];exact(z2pa hl rfl rfl).trans (z2pa hl rfl rfl).symm⟩
 |some c=>exact⟨⟨some c,l,hl,hn,rfl⟩,rfl⟩
/-! ### valid -/
def okP (n:Int) (k:Nat):Bool:=decide (0≤n)&&decide (n≤4294967296)&&decide (k=oN n.toNat)
def pkA (n:Int) (nl:Option Bool) (l:List (List UInt8)):z2a:= .agg [i64 n,z5w nl l]
def gPn (d:z2a):Int:=match d with| .agg (i::_)=>asI i|_=>0
def gPl (d:z2a):List (List UInt8):=match d with| .agg [_,s]=>gDs s|_=>[]
@[simp] theorem z7xb (n:Int) (s:z2a):gPn (.agg [i64 n,s])=n:=rfl
@[simp] theorem z2wb (n:Int) (s:z2a):gPl (.agg [i64 n,s])=gDs s:=rfl
def inI (n:Int):Prop:= -9223372036854775808≤n∧n≤9223372036854775807
def z0db:z5a:=⟨fun ds=>∃(n:Int) (nl:Option Bool) (l:List (List UInt8)),inI n∧z2p l∧l.length≤1000000∧ds=[pkA n nl l],fun ds=>bo (okP (gPn (nth ds 0)) (gPl (nth ds 0)).length)⟩
theorem z9Ra {n:Int} {nl:Option Bool} {l:List (List UInt8)} {b:List UInt8} {k:Nat} (hn:inI n) (h:z2p l) (hl:l.length≤1000000) (hk:k=l.length) (hb:b=dgs l):z0db.pre [.agg [i64 n,.sl .plain nl k (bys b)]]=True:=eq_true ⟨n,nl,l,hn,h,hl,by rw[hk,hb];rfl⟩
theorem z3fa {n:Int} {m:z0ka} {nl:Option Bool} {l:List (List UInt8)} {b:List UInt8} {k:Nat} (h:z2p l) (hk:k=l.length) (hb:b=dgs l):z0db.post [.agg [i64 n,.sl m nl k (bys b)]]=bo (okP n l.length):=by
 simp only[z0db]
 rw[hk,hb,show nth [z2a.agg [i64 n,.sl m nl l.length (bys (dgs l))]] 0=z2a.agg [i64 n,.sl m nl l.length (bys (dgs l))] from rfl,z7xb,z2wb,z8A h]
theorem z4ob {n:Int} (h0:0≤n) (h1:n<18446744073709551616):(UInt64.ofInt n).toNat=n.toNat:=by
 obtain⟨k,rfl⟩:=Int.eq_ofNat_of_zero_le h0
 show(((k:Int)% 18446744073709551616).toNat% 18446744073709551616)=k
 omega
set_option maxHeartbeats 4000000 in
theorem z2rd (E:Env) (h188:E.G 188=z3Oa):∀ds,z0db.pre ds→ds.length=z3m.n∧awp E z3m.body (z0m z3m.res (z0db.post ds)) (z3b z3m.wr ds):=by
 rintro _ ⟨n,nl,l,⟨hn1,hn2⟩,hl,hk,rfl⟩
 rw[show z0db.post [pkA n nl l]=bo (okP n l.length) from z3fa hl rfl rfl]
 unfold pkA z5w
 by_cases h0:0≤n
 ·by_cases h1:n≤4294967296
  ·simp(maxSteps:=1000000) (disch:=first|omega|(simp;done)|(simp;omega)) [z9a,z1a,z0a,z3m,h188,dT,dF,h0,h1]
   rw[show(UInt64.ofInt n).toNat=n.toNat from z4ob h0 (by omega)]
   simp only[okP,dT h0,dT h1,Bool.true_and]
   by_cases e:l.length=oN n.toNat
   ·rw[e];simp
   ·rw[dF e];simp;omega
  ·simp(maxSteps:=1000000) (disch:=first|omega|(simp;done)|(simp;omega)) [z9a,z1a,z0a,z3m,h188,dT,dF,h0,h1]
   simp only[okP,dF h1];simp
 ·simp(maxSteps:=1000000) (disch:=first|omega|(simp;done)|(simp;omega)) [z9a,z1a,z0a,z3m,h188,dT,dF,h0]
  simp only[okP,dF h0];simp
end Go.Abs
end

section
namespace Go.Abs
set_option maxRecDepth 100000
def z9ub:CM:=⟨[],[1],fun ds=>∃(nl:Option Bool) (l:List (List UInt8)),z2p l∧l.length≤1000000∧ds=[z5w nl l],fun _=> .fn 184 [] [.bp 1 0],fun ds _=>[nth ds 0]⟩
@[simp] theorem z2ee:z9ub.bx=[]:=rfl
@[simp] theorem z4ee:z9ub.nb=[1]:=rfl
@[simp] theorem z0Md (ds:List z2a):z9ub.post ds= .fn 184 [] [.bp 1 0]:=rfl
@[simp] theorem z8Xd (d:z2a) (j:Nat):z9ub.out [d] j=[d]:=rfl
theorem z2hb {nl:Option Bool} {l:List (List UInt8)} {b:List UInt8} {n:Nat} (h:z2p l) (hl:l.length≤1000000) (hn:n=l.length) (hb:b=dgs l):z9ub.pre [.sl .plain nl n (bys b)]=True:=eq_true ⟨nl,l,h,hl,by rw[hn,hb];rfl⟩
set_option maxHeartbeats 4000000 in
theorem z6Fd (E:Env):∀ds p,z9ub.pre ds→ds.length=z1f.n∧awp E z1f.body (z2Nc z1f.res z9ub p ds) (z34a z9ub.bx p ds):=by
 rintro _ p ⟨nl,l,hl,hn,rfl⟩
 have e:(z8d (z5w nl l)=true):=rfl
 simp(maxSteps:=1000000) (disch:=first|omega|(simp;done)|(simp;omega)) [z1f,z34a,z2Nc,z5w]
@[simp] theorem z8Td (E:Env) (l:Nat) (el:Nat→Option (List z2a)) (i:Nat) (a b:z0P) (Q:IQ) (p:Nat×Bool) (s:ASt):z0ga E l el (.seq (.block i a) b) Q p s=z0ga E l el (.block i a) (z8sb (fun p st=>z0ga E l el b Q p st) Q) p s:=rfl
theorem z6ob {E:Env} {l:Nat} {el:Nat→Option (List z2a)} {b:z0P} {Q:IQ} {p:Nat×Bool} {s:ASt} (I:Nat×Bool→ASt→Prop) (h0:I p s)
  (h:∀p s,I p s→∀Q',(∀p' s',I p' s'→p.2=false→(p'=(p.1+1,false)∨p'=(p.1,true))→Q' .normal p' s')→(∀i p' s',Q' (.exit i) p' s'=Q (.exit i) p' s')→(∀p' s',Q' .ret p' s'=Q .ret p' s')→z0ga E l el b Q' p s):z0ga E l el (.loop b) Q p s:=
 ⟨I,h0,fun p s hi=>h p s hi _ (fun p' s' h1 h2 h3=>⟨h1,h2,h3⟩) (fun _ _ _=>rfl) (fun _ _=>rfl)⟩
def gSl (d:z2a):List (List UInt8):=match d with| .ep [s]=>gDs s|_=>[]
def z4lb:ItC:=⟨fun x y=>x=[]∧∃(nl:Option Bool) (l:List (List UInt8)),z2p l∧l.length≤1000000∧y=[.ep [z5w nl l]],fun _ y i=>if i<(gSl (nth y 0)).length then some [i64 (((gSl (nth y 0)).length:Int)-1-i),.agg (bys (z8ga (gSl (nth y 0)) ((gSl (nth y 0)).length-1-i)))] else none,[]⟩
@[simp] theorem z63d:z4lb.lv=[]:=rfl
theorem z0gb {nl:Option Bool} {l:List (List UInt8)} (h:z2p l) (i:Nat):z4lb.el [] [.ep [.sl .plain nl l.length (bys (dgs l))]] i=if i<l.length then some [i64 ((l.length:Int)-1-i),.agg (bys (z8ga l (l.length-1-i)))] else none:=by
 simp only[z4lb]
 rw[show gSl (nth [z2a.ep [.sl .plain nl l.length (bys (dgs l))]] 0)=gDs (.sl .plain nl l.length (bys (dgs l))) from rfl,z8A h]
theorem z3Ob {nl:Option Bool} {l:List (List UInt8)} (h:z2p l) (hl:l.length≤1000000):z4lb.pre [] [.ep [.sl .plain nl l.length (bys (dgs l))]]:=⟨rfl,nl,l,h,hl,rfl⟩
set_option maxHeartbeats 4000000 in
theorem z3Sc (E:Env):∀x y l,z4lb.pre x y→x.length=z0j.nx∧y.length=z0j.ny∧z0ga E l (z4lb.el x y) z0j.body (itQ (z4lb.el x y)) (0,false) (z57b l [] x y):=by
 rintro _ _ ln ⟨rfl,nl,l,h16,hn,rfl⟩
 have hel:∀i,z4lb.el [] [.ep [z5w nl l]] i=if i<l.length then some [i64 ((l.length:Int)-1-i),.agg (bys (z8ga l (l.length-1-i)))] else none:=z0gb h16
 refine⟨rfl,rfl,?_⟩
 generalize hQ:itQ (z4lb.el [] [.ep [z5w nl l]])=Q
 have hdone:∀p st',p.2=true→Q .normal p st':=fun p st' h=>by rw[←hQ];exact .inl h
 have hend:∀p st',l.length≤p.1→Q .normal p st':=fun p st' h=>by rw[←hQ];exact .inr (by rw[hel,if_neg (by omega)])
 have hQx:∀p st',p.2=true→Q .ret p st':=fun p st' h=>by rw[←hQ];exact .inl h
 generalize z4lb.el [] [.ep [z5w nl l]]=el at hel
 have hd:=z0q h16
 unfold z5w
 simp(maxSteps:=1000000) (disch:=first|omega|(simp;done)|(simp;omega)) [z9a,z1a,z0a,z0j,z0K,z9J,z6Fb]
 refine z1Pb fun Q1 hQ1=> ?_
 refine z6ob (fun p st'=>p.2=false∧p.1≤l.length∧st'=⟨[(0,z2a.lit (Value.func (Fn.yield ln) #[] #[])),(1,.ep [.sl .plain nl l.length (bys (dgs l))])],[(3,i64 ((l.length:Int)-1-p.1))],[]⟩) ⟨rfl,Nat.zero_le _,by simp⟩ fun p st' ⟨hp,hk,hst⟩ Q2 h2 hx hr=> ?_
 obtain⟨i,b⟩:=p
 subst hst
 simp only at hp hk
 subst hp
 by_cases h:i<l.length
 ·have hlt:(0:Int)≤(l.length:Int)-1-i:=by omega
  have hat:=z5wa h16 (show l.length-1-i<l.length by omega)
  have e1:((l.length:Int)-1-i).toNat=l.length-1-i:=by omega
  simp(maxSteps:=1000000) (disch:=first|omega|(simp;done)|(simp;omega)) [z9a,z1a,z0a,z8w,z9w,kT,kF,dT,dF,hlt]
  simp(maxSteps:=1000000) (disch:=first|omega|(simp;done)|(simp;omega)) [z9a,z1a,z0a,z2K,hd,e1,hat,z5K,z4K,hel,or_imp,forall_and,and_imp,forall_eq]
  refine⟨⟨by omega,by omega⟩,by omega,h,?_,?_⟩
  ·simp(maxSteps:=1000000) (disch:=first|omega|(simp;done)|(simp;omega)) [z9a,z1a,z0a,kT,kF]
   show Q2 .ret (i,true) _
   rw[hr,hQ1]
   exact hQx (i,true) _ rfl
  ·simp(maxSteps:=1000000) (disch:=first|omega|(simp;done)|(simp;omega)) [z9a,z1a,z0a,kT,kF]
   exact h2 (i+1,false) _ ⟨rfl,by show i+1≤l.length;omega,by simp;omega⟩ rfl (.inl rfl)
 ·have hlt:¬(0:Int)≤(l.length:Int)-1-i:=by omega
  simp(maxSteps:=1000000) (disch:=first|omega|(simp;done)|(simp;omega)) [z9a,z1a,z0a,z8w,z9w,kT,kF,dT,dF,hlt,hx,hQ1]
  exact hend _ _ (by show l.length≤i;omega)
end Go.Abs
end

section
namespace Go.Abs
end Go.Abs
end

section
namespace Go.Abs
@[simp] theorem z1td (nl:Option Bool) (l:List (List UInt8)):z5m (z2Fa nl l)=[]:=rfl
@[simp] theorem z7vd (nl:Option Bool) (l:List (List UInt8)):z5m (z5w nl l)=[]:=rfl
@[simp] theorem z3Xd (m:List (Nat×Nat)) (nl:Option Bool) (l:List (List UInt8)):ren m (z2Fa nl l)=z2Fa nl l:=rfl
@[simp] theorem z0Sd (m:List (Nat×Nat)) (nl:Option Bool) (l:List (List UInt8)):ren m (z5w nl l)=z5w nl l:=rfl
@[simp] theorem z3hd (nl:Option Bool) (l:List (List UInt8)):z8d (z2Fa nl l)=true:=rfl
@[simp] theorem z3gd (nl:Option Bool) (l:List (List UInt8)):z8d (z5w nl l)=true:=rfl
end Go.Abs
end

section
namespace Go.Abs
end Go.Abs
end

section
namespace Go.Abs
attribute [local simp] z45a fnd wIn z2Na z8qc
def thB (b i id:Nat) (x:Option (List z2a)) (box:List (Nat×Option (List z2a))):List (Nat×Option (List z2a)):=
 match x with|some bs=>(match bs.getD i .undef with| .sl (.own e) _ n cs=>(b,some (bs.set i (.bv id e 0 n n)))::(id,some cs)::box|_=>box)|none=>box
@[simp] theorem z32d (b i id:Nat) (o e:List (Nat×z2a)) (box:List (Nat×Option (List z2a))):z1b (.thawB b i id) ⟨o,e,box⟩=⟨o,e,thB b i id (ASt.getB ⟨o,e,box⟩ b) box⟩:=by
 simp only[z1b,thB]
 split
 ·split<;>simp_all
 ·simp_all
@[simp] theorem z07d (b id e n:Nat) (nl:Option Bool) (cs:List z2a) (box:List (Nat×Option (List z2a))):thB b 0 id (some [.sl (.own e) nl n cs]) box=(b,some [.bv id e 0 n n])::(id,some cs)::box:=rfl
def thS (s id:Nat) (d:z2a) (st:ASt):ASt:=match d with| .sl (.own e) _ n cs=>{st with env:=(s,.bv id e 0 n n)::st.env,box:=(id,some cs)::st.box}|_=>st
@[simp] theorem z4ce (s id:Nat) (o e:List (Nat×z2a)) (box:List (Nat×Option (List z2a))):z1b (.thaw s id) ⟨o,e,box⟩=thS s id (ASt.get ⟨o,e,box⟩ s) ⟨o,e,box⟩:=rfl
@[simp] theorem z3ae (s id k n:Nat) (nl:Option Bool) (cs:List z2a) (o e:List (Nat×z2a)) (box:List (Nat×Option (List z2a))):thS s id (.sl (.own k) nl n cs) ⟨o,e,box⟩=⟨o,(s,.bv id k 0 n n)::e,(id,some cs)::box⟩:=rfl
@[simp] theorem z2sc (m:List (Nat×Nat)):∀l:List UInt8,renL m (bys l)=bys l
 |[]=>rfl
 |x::l=>by show ren m (u8 x)::renL m (bys l)=_;rw[z2sc m l];rfl
@[simp] theorem z6cc (ids:List Nat) (bx:Nat→List z2a):∀l:List UInt8,z66 ids bx (bys l)=bys l
 |[]=>rfl
 |x::l=>by show z2za ids bx (u8 x)::z66 ids bx (bys l)=_;rw[z6cc ids bx l];rfl
@[simp] theorem z64d (id o:Nat):z1Va (.bp id o)=true:=rfl
@[simp] theorem z8ed:z1Va .undef=true:=rfl
@[simp] theorem z4Wd (v:Value):z1Va (.lit v)=true:=rfl
@[simp] theorem z18d (id e o n c:Nat):z1Va (.bv id e o n c)=true:=rfl
end Go.Abs
end

section
namespace Go.Abs
set_option maxRecDepth 100000
def z3Aa (l:List (List UInt8)):Nat→List UInt8
 |0=>z8ga l (l.length-1)
 |i+1=>z4j 2 [z8ga l (l.length-2-i),z3Aa l i]
def z4kb (n:Int) (l:List (List UInt8)):List UInt8×Nat:=if okP n l.length then(if n=0 then root [] else z3Aa l (l.length-1),0) else(z9c 16,1)
def z6ub:z5a:=⟨fun ds=>∃(n:Int) (nl:Option Bool) (l:List (List UInt8)),inI n∧z2p l∧l.length≤1000000∧ds=[pkA n nl l],fun ds=> .tup [.agg (bys (z4kb (gPn (nth ds 0)) (gPl (nth ds 0))).1),i64 (z4kb (gPn (nth ds 0)) (gPl (nth ds 0))).2]⟩
theorem z0Jb {n:Int} {nl:Option Bool} {l:List (List UInt8)} {b:List UInt8} {k:Nat} (hn:inI n) (h:z2p l) (hl:l.length≤1000000) (hk:k=l.length) (hb:b=dgs l):z6ub.pre [.agg [i64 n,.sl .plain nl k (bys b)]]=True:=eq_true ⟨n,nl,l,hn,h,hl,by rw[hk,hb];rfl⟩
theorem z1Fa {n:Int} {m:z0ka} {nl:Option Bool} {l:List (List UInt8)} {b:List UInt8} {k:Nat} (h:z2p l) (hk:k=l.length) (hb:b=dgs l):z6ub.post [.agg [i64 n,.sl m nl k (bys b)]]= .tup [.agg (bys (z4kb n l).1),i64 (z4kb n l).2]:=by
 simp only[z6ub]
 rw[hk,hb,show nth [z2a.agg [i64 n,.sl m nl l.length (bys (dgs l))]] 0=z2a.agg [i64 n,.sl m nl l.length (bys (dgs l))] from rfl,z7xb,z2wb,z8A h]
theorem z9F {l:List (List UInt8)} (h:z2p l) (h0:0<l.length):∀i,(z3Aa l i).length=16
 |0=>z7I h (by omega)
 |i+1=>z1h _ _
theorem z6wa {n:Nat} (h:0<n):0<oN n:=by
 induction n using Nat.strongRecOn with
 |ind n ih=>
  rw[z86]
  by_cases h1:n% 2=1
  ·omega
  ·have:=ih (n/2) (by omega) (by omega);omega
set_option maxHeartbeats 8000000 in
theorem z85d (E:Env) (h165:E.G 165=shM) (h169:E.G 169=z5Ga) (hI184:E.I 184=z4lb) (h183:E.M 183=z9ub) {n:Int} {nl:Option Bool} {l:List (List UInt8)} (hn:inI n) (hl:z2p l) (hlen:l.length≤1000000) (hpos:0<l.length) {Q0:z7h→ASt→Prop}
  (hQ0:Q0=z0m [z4Fa.cell 2 (some 16) 2,z4Fa.t 3] (z2a.tup [z2a.agg (bys (z3Aa l (l.length-1))),i64 0])):awp E z41 Q0 ⟨[(0,z2a.agg [i64 n,z2a.sl z0ka.plain nl l.length (bys (dgs l))])],[(1,z2a.bp 1 0),(2,z2a.bp 2 0)],[(1,some [i64 n,z2a.sl z0ka.plain nl l.length (bys (dgs l))]),(2,some (bys (z9c 16)))]⟩:=by
 have hd:=z0q hl
 have hat:=z5wa hl (show l.length-1<l.length by omega)
 have hal:=z7I hl (show l.length-1<l.length by omega)
 have e1:((l.length:Int)-1).toNat=l.length-1:=by omega
 have ht:=z75 hl (l.length-1)
 unfold z41
 rw[z6n]
 refine z4a fun Q1 hQ1=> ?_
 simp(maxSteps:=1000000) (disch:=first|omega|(simp;done)|(simp;omega)) [z9a,z1a,z0a,e1,hd,hat,hal]
 rw[hQ1]
 show awp E _ _ _
 rw[z6n]
 refine z4a fun Q2 hQ2=> ?_
 simp(maxSteps:=1000000) (disch:=first|omega|(simp;done)|(simp;omega)) [z9a,z1a,z0a,e1,hd,hat,hal,z8a]
 refine⟨⟨by omega,by omega⟩,by omega,?_⟩
 rw[hQ2]
 show awp E _ _ _
 rw[z6n]
 refine z4a fun Q3 hQ3=> ?_
 rw[z6n]
 refine z4a fun Q4 hQ4=> ?_
 have b1:z9ub.pre [.sl .plain nl (l.length-1) (bys (dgs (l.take (l.length-1))))]=True:=z2hb (z9v hl _) (by simp;omega) (by simp) rfl
 have di:∀(ids:List Nat) (f:Nat→List z2a) (k:Int),z2za ids f (i64 k)=i64 k:=fun _ _ _=>rfl
 simp(maxSteps:=1000000) (disch:=first|omega|(simp;done)|(simp;omega)) [z9a,z1a,z0a,e1,hd,ht,h183,b1,di]
 refine⟨⟨by omega,by omega⟩,?_⟩
 rw[hQ4]
 show awp E _ _ _
 have hm:z2p (l.take (l.length-1)):=z9v hl _
 have hml:(l.take (l.length-1)).length=l.length-1:=by simp
 have hmat:∀i,i<l.length-1→z8ga (l.take (l.length-1)) (l.length-1-1-i)=z8ga l (l.length-2-i):=fun i hi=>by
  simp only[z8ga,List.getD,List.getElem?_take]
  rw[if_pos (by omega),show l.length-1-1-i=l.length-2-i by omega]
 have hel:=fun i=>z0gb (nl:=nl) hm i
 rw[hml] at hel
 generalize hm0:l.take (l.length-1)=m at*
 refine z6sa [] [.ep [.sl .plain nl (l.length-1) (bys (dgs m))]] (by simp) (by simp) (by rw[hI184];rfl) (by rw[hI184];have:=z3Ob (nl:=nl) hm (by omega);rw[hml] at this;exact this) (by simp) l.length (fun i bx=>i≤l.length-1∧bx=[(1,some [i64 n,.sl .plain nl l.length (bys (dgs l))]),(2,some (bys (z9c 16))),(5,some (bys (z3Aa l i)))]) ⟨Nat.zero_le _,rfl⟩ (fun i bx h=>by omega) (fun i bx h he=> ?_) (fun i bx xs hi he=> ?_)
 ·rw[hI184,hel] at he
  obtain⟨hi,rfl⟩:=h
  split at he
  ·cases he
  ·have hii:i=l.length-1:=by omega
   subst hii
   have tl:=z9F hl hpos (l.length-1)
   have tk:=z0g tl
   simp(maxSteps:=1000000) (disch:=first|omega|(simp;done)|(simp;omega)) [z9a,z1a,z0a,z0ya,z8r,hQ3,z3oa,tl,z8a,hQ0,tk]
 ·rw[hI184,hel] at he
  obtain⟨hi,rfl⟩:=hi
  split at he
  ·rename_i hlt
   have he':=(Option.some.inj he).symm
   subst he'
   have tl:=z9F hl hpos i
   refine⟨rfl,by simp,fun V=> ?_⟩
   have al:=z7I hl (show l.length-2-i<l.length by omega)
   rw[hmat i hlt]
   simp(maxSteps:=1000000) (disch:=first|omega|(simp;done)|(simp;omega)) [z9a,z1a,z0a,z0ya,z8r,z8ra,z2oa,al,tl,z8a,h169,h165,z6Wa,z18,z9Eb,z0Ea,z0g]
   exact⟨of_eq_true (z18 (by have:=z0za (t:=2) (z2db al tl);simp only[List.length_cons,List.length_nil] at this;omega) rfl),by omega,rfl⟩
  ·cases he
set_option maxHeartbeats 8000000 in
theorem z6ud (E:Env) (h165:E.G 165=shM) (h168:E.G 168=z5la) (h169:E.G 169=z5Ga) (h179:E.G 179=z0db) (hI184:E.I 184=z4lb) (h183:E.M 183=z9ub):∀ds,z6ub.pre ds→ds.length=z2g.n∧awp E z2g.body (z0m z2g.res (z6ub.post ds)) (z3b z2g.wr ds):=by
 rintro _ ⟨n,nl,l,hn,hl,hlen,rfl⟩
 rw[show z6ub.post [pkA n nl l]= .tup [.agg (bys (z4kb n l).1),i64 (z4kb n l).2] from z1Fa hl rfl rfl,z4kb]
 unfold pkA z5w
 have v1:=z9Ra (nl:=nl) hn hl hlen rfl rfl
 have v2:=z3fa (n:=n) (m:= .plain) (nl:=nl) hl rfl rfl
 by_cases ho:okP n l.length=true
 ·rw[if_pos ho]
  rw[ho] at v2
  by_cases h0:n=0
  ·rw[if_pos h0]
   subst h0
   have r1:z5la.pre [.sl .plain (some true) 0 []]=True:=z5Da (l:=[]) (b:=[]) z8n (by decide) rfl rfl
   have r2:z5la.post [.sl .plain (some true) 0 []]= .agg (bys (root [])):=z2ca (l:=[]) (b:=[]) z8n rfl rfl
   have rl:=z5ia []
   simp(maxSteps:=1000000) (disch:=first|omega|(simp;done)|(simp;omega)) [z9a,z1a,z0a,z2g,h179,v1,v2,kT,kF,dT,dF,z7X,h168,r1,r2,rl,z8a,z0g rl]
  ·rw[if_neg h0]
   have hpos:0<l.length:=by
    simp only[okP,Bool.and_eq_true,decide_eq_true_eq] at ho
    have:=z6wa (n:=n.toNat) (by omega)
    omega
   have hd:=z0q hl
   have hat:=z5wa hl (show l.length-1<l.length by omega)
   have hal:=z7I hl (show l.length-1<l.length by omega)
   have e1:((l.length:Int)-1).toNat=l.length-1:=by omega
   have b1:z9ub.pre [.sl .plain (if l.length=1 then nl else nl) (l.length-1) (bys (dgs (l.take (l.length-1))))]=True:=z2hb (z9v hl _) (by simp;omega) (by simp) rfl
   have ht:=z75 hl (l.length-1)
   simp(maxSteps:=1000000) (disch:=first|omega|(simp;done)|(simp;omega)) [z9a,z1a,z0a,z2g,h179,v1,v2,kT,kF,dT,dF,h0,z7X]
   refine z85d E h165 h169 hI184 h183 hn hl hlen hpos ?_
   rfl
 ·rw[if_neg ho]
  have ho':okP n l.length=false:=by simpa using ho
  rw[ho'] at v2
  simp(maxSteps:=1000000) (disch:=first|omega|(simp;done)|(simp;omega)) [z9a,z1a,z0a,z2g,h179,v1,v2,kT,kF,z8a]
end Go.Abs
end

section
namespace Go.Abs
set_option maxRecDepth 100000
def z7Wa (l:List (List UInt8)) (d:List UInt8):Nat→List UInt8
 |0=>z4j 1 [d]
 |i+1=>z4j 2 [z8ga l (l.length-1-i),z7Wa l d i]
def z0ra (l:List (List UInt8)) (d:List UInt8) (t:Nat):List (List UInt8):=l.take (l.length-t)++[z7Wa l d t]
def z7Wb (n:Int) (l:List (List UInt8)) (d:List UInt8):(Int×List (List UInt8))×Nat:=if okP n l.length=true∧n≠4294967296 then((n+1,z0ra l d (t1N n.toNat)),0) else((0,[]),1)
def z6rc (n:Int) (l:List (List UInt8)):Option Bool:=if okP n l.length=true∧n≠4294967296∧0<t1N n.toNat then some false else none
def z6Wb:z5a:=⟨fun ds=>∃(n:Int) (nl:Option Bool) (l:List (List UInt8)) (d:List UInt8),inI n∧z2p l∧l.length≤1000000∧d.length=16∧ds=[pkA n nl l,.agg (bys d)],
 fun ds=> .tup [pkA (z7Wb (gPn (nth ds 0)) (gPl (nth ds 0)) (gBs (gCs (nth ds 1)))).1.1 (z6rc (gPn (nth ds 0)) (gPl (nth ds 0))) (z7Wb (gPn (nth ds 0)) (gPl (nth ds 0)) (gBs (gCs (nth ds 1)))).1.2,i64 (z7Wb (gPn (nth ds 0)) (gPl (nth ds 0)) (gBs (gCs (nth ds 1)))).2]⟩
theorem z3Ac {n:Int} {nl:Option Bool} {l:List (List UInt8)} {b d:List UInt8} {k:Nat} (hn:inI n) (h:z2p l) (hl:l.length≤1000000) (hd:d.length=16) (hk:k=l.length) (hb:b=dgs l):z6Wb.pre [.agg [i64 n,.sl .plain nl k (bys b)],.agg (bys d)]=True:=eq_true ⟨n,nl,l,d,hn,h,hl,hd,by rw[hk,hb];rfl⟩
theorem z0pb {n:Int} {m:z0ka} {nl:Option Bool} {l:List (List UInt8)} {b d:List UInt8} {k:Nat} (h:z2p l) (hk:k=l.length) (hb:b=dgs l):z6Wb.post [.agg [i64 n,.sl m nl k (bys b)],.agg (bys d)]= .tup [pkA (z7Wb n l d).1.1 (z6rc n l) (z7Wb n l d).1.2,i64 (z7Wb n l d).2]:=by
 simp only[z6Wb]
 rw[hk,hb,show nth [z2a.agg [i64 n,.sl m nl l.length (bys (dgs l))],.agg (bys d)] 0=z2a.agg [i64 n,.sl m nl l.length (bys (dgs l))] from rfl,show gBs (gCs (nth [z2a.agg [i64 n,.sl m nl l.length (bys (dgs l))],.agg (bys d)] 1))=d from by simp[nth],z7xb,z2wb,z8A h]
theorem z4Ea (l:List (List UInt8)) (d:List UInt8):∀i,(z7Wa l d i).length=16
 |0=>z1h _ _
 |i+1=>z1h _ _
theorem z27b {l:List (List UInt8)} (h:z2p l) (d:List UInt8) (t:Nat):z2p (z0ra l d t):=z4Qa.2 ⟨z9v h _,z4g.2 ⟨z4Ea l d t,z8n⟩⟩
theorem z9Lb {n:Int} (h0:0≤n) (h1:n≤4294967296): ~~~(UInt64.ofInt n)≠0∧tzN (~~~(UInt64.ofInt n)).toNat=t1N n.toNat:=by
 have e:=z4ob h0 (show n<18446744073709551616 by omega)
 have e2:(~~~(UInt64.ofInt n)).toNat=2^64-1-n.toNat:=by
  rw[UInt64.toNat_not,e]
 refine⟨fun h=> ?_,?_⟩
 ·have:=congrArg UInt64.toNat h
  rw[e2] at this
  change 2^64-1-n.toNat=0 at this
  omega
 ·rw[e2];exact z8wd 64 _ (by omega)
abbrev z2ge (n:Int) (l:List (List UInt8)) (d:List UInt8) (nl:Option Bool) (x y:z2a) (bx:List (Nat×Option (List z2a))):ASt:=
 ⟨[(0,.agg [i64 n,.sl .plain nl l.length (bys (dgs l))]),(1,.agg (bys d))],[(2,.bp 2 0),(3,.bp 3 0),(4,.bp 4 0),(6,x)],[(2,some [i64 n,y]),(3,some (bys d)),(4,some [i64 0,.sl (.own 16) none 0 []])]++bx⟩
set_option maxHeartbeats 8000000 in
theorem z3de (E:Env) (h165:E.G 165=shM) (h166:E.G 166=z0Wa) (h169:E.G 169=z5Ga) (h181:E.G 181=tzC) {n:Int} {nl:Option Bool} {l:List (List UInt8)} {d:List UInt8} (h0:0≤n) (h1:n<4294967296) (hl:z2p l) (hlen:l.length≤1000000) (hd:d.length=16) (ht:t1N n.toNat=0) {Q0:z7h→ASt→Prop}
  (hQ0:Q0=z0m [z4Fa.cell 4 (some 2) 4,z4Fa.t 5] (.tup [pkA (n+1) none (z0ra l d 0),i64 0])):awp E z77 Q0 (z2ge n l d nl (.sl (.own 16) none l.length (bys (dgs l))) (.sl .plain nl l.length (bys (dgs l))) []):=by
 obtain⟨z1,z2⟩:=z9Lb h0 (by omega)
 have fl:=z4Ea l d 0
 have hdl:=z0q hl
 unfold z77
 rw[z6n]
 refine z4a fun Q1 hQ1=> ?_
 have i1:=z0za (t:=1) (z4g.2 ⟨hd,z8n⟩)
 simp only[List.length_cons,List.length_nil] at i1
 have sp:shM.pre [.sl .plain (some false) (z7l 1 [d]).length (bys (z7l 1 [d]))]=True:=z18 (by omega) rfl
 have sl:=z5X (z7l 1 [d])
 simp(maxSteps:=1000000) (disch:=first|omega|(simp;done)|(simp;omega)) [z9a,z1a,z0a,h166,h165,z7Ua,sp,hd,z8a,sl,z0g]
 rw[hQ1]
 show awp E _ _ _
 rw[z6n]
 refine z4a fun Q2 hQ2=> ?_
 rw[z6n]
 refine z4a fun Q3 hQ3=> ?_
 obtain⟨u,hu⟩:∃u,~~~(UInt64.ofInt n)=u:=⟨_,rfl⟩
 rw[hu] at z1 z2
 have tp:tzC.pre [u64 u]=True:=z1Cb z1
 simp(maxSteps:=1000000) (disch:=first|omega|(simp;done)|(simp;omega)) [z9a,z1a,z0a,h181,hu,tp,z2,ht]
 rw[hQ3]
 show awp E _ _ _
 refine z4e (fun i:Nat=>⟨[(0,.agg [i64 n,.sl .plain nl l.length (bys (dgs l))]),(1,.agg (bys d))],[(2,.bp 2 0),(4,.bp 4 0),(6,.sl (.own 16) none l.length (bys (dgs l))),(7,.bp 7 0),(28,i64 0),(29,i64 0)],[(2,some [i64 n,.sl .plain nl l.length (bys (dgs l))]),(3,some (bys d)),(4,some [i64 0,.sl (.own 16) none 0 []]),(7,some (bys (z7Wa l d 0)))]⟩) (fun i=>0) (fun i=>True) 0 rfl trivial fun i hi=> ?_
 have tk:=z0g fl
 have td:l.take (l.length-0)=l:=by simp
 have ea:dgs (z0ra l d 0)=dgs l++z7Wa l d 0:=by rw[z0ra,td,z87a,z9V,z6yb,List.append_nil]
 have el:(z0ra l d 0).length=l.length+1:=by simp[z0ra]
 simp(maxSteps:=1000000) (disch:=first|omega|(simp;done)|(simp;omega)) [z9a,z1a,z0a,z1pa,kT,kF,dT,dF,hQ2,z0qa,fl,tk,z8a,hdl,hQ0,pkA,z5w,ea,el]
 omega
abbrev z3Qc (n:Int) (l:List (List UInt8)) (d:List UInt8) (nl:Option Bool) (t i:Nat):ASt:=
 ⟨[(0,.agg [i64 n,.sl .plain nl l.length (bys (dgs l))]),(1,.agg (bys d))],[(2,.bp 2 0),(4,.bp 4 0),(6,.bv 906 16 0 (l.length-i) l.length),(7,.bp 7 0),(28,i64 t),(29,i64 i)],[(2,some [i64 n,.undef]),(3,some (bys d)),(4,some [i64 0,.sl (.own 16) none 0 []]),(7,some (bys (z7Wa l d i))),(906,some (bys (dgs l)))]⟩
set_option maxHeartbeats 8000000 in
theorem z5be (E:Env) (h165:E.G 165=shM) (h166:E.G 166=z0Wa) (h169:E.G 169=z5Ga) (h181:E.G 181=tzC) {n:Int} {nl:Option Bool} {l:List (List UInt8)} {d:List UInt8} (h0:0≤n) (h1:n<4294967296) (hl:z2p l) (hlen:l.length≤1000000) (hd:d.length=16) {t:Nat} (ht:t1N n.toNat=t) (ht0:0<t) (htl:t≤l.length) {Q0:z7h→ASt→Prop}
  (hQ0:Q0=z0m [z4Fa.cell 4 (some 2) 4,z4Fa.t 5] (.tup [pkA (n+1) (some false) (z0ra l d t),i64 0])):awp E z8F Q0 ⟨[(0,.agg [i64 n,.sl .plain nl l.length (bys (dgs l))]),(1,.agg (bys d))],[(6,.bv 906 16 0 l.length l.length),(2,.bp 2 0),(3,.bp 3 0),(4,.bp 4 0),(6,.sl (.own 16) none l.length (bys (dgs l)))],[(906,some (bys (dgs l))),(2,some [i64 n,.undef]),(3,some (bys d)),(4,some [i64 0,.sl (.own 16) none 0 []])]⟩:=by
 obtain⟨z1,z2⟩:=z9Lb h0 (by omega)
 have hdl:=z0q hl
 unfold z8F
 rw[z6n]
 refine z4a fun Q1 hQ1=> ?_
 have i1:=z0za (t:=1) (z4g.2 ⟨hd,z8n⟩)
 simp only[List.length_cons,List.length_nil] at i1
 have sp:shM.pre [.sl .plain (some false) (z7l 1 [d]).length (bys (z7l 1 [d]))]=True:=z18 (by omega) rfl
 have sl:=z5X (z7l 1 [d])
 simp(maxSteps:=1000000) (disch:=first|omega|(simp;done)|(simp;omega)) [z9a,z1a,z0a,h166,h165,z7Ua,sp,hd,z8a,sl,z0g]
 rw[hQ1]
 show awp E _ _ _
 rw[z6n]
 refine z4a fun Q2 hQ2=> ?_
 rw[z6n]
 refine z4a fun Q3 hQ3=> ?_
 obtain⟨u,hu⟩:∃u,~~~(UInt64.ofInt n)=u:=⟨_,rfl⟩
 rw[hu] at z1 z2
 have tp:tzC.pre [u64 u]=True:=z1Cb z1
 simp(maxSteps:=1000000) (disch:=first|omega|(simp;done)|(simp;omega)) [z9a,z1a,z0a,h181,hu,tp,z2,ht]
 rw[hQ3]
 show awp E _ _ _
 refine z4e (z3Qc n l d nl t) (fun i=>t-i) (fun i=>i≤t) 0 (by simp[z3Qc];rfl) (Nat.zero_le _) fun i hi=> ?_
 have fl:=z4Ea l d i
 have tk:=z0g fl
 by_cases hlt:i<t
 ·have lt':(i:Int)<t:=by omega
  have hat:=z5wa hl (show l.length-i-1<l.length by omega)
  have hal:=z7I hl (show l.length-i-1<l.length by omega)
  have np:=z6Wa hal fl
  have i2:=z0za (t:=2) (z2db hal fl)
  simp only[List.length_cons,List.length_nil] at i2
  have sp2:shM.pre [.sl .plain (some false) (z7l 2 [z8ga l (l.length-i-1),z7Wa l d i]).length (bys (z7l 2 [z8ga l (l.length-i-1),z7Wa l d i]))]=True:=z18 (by omega) rfl
  have sl2:=z5X (z7l 2 [z8ga l (l.length-i-1),z7Wa l d i])
  have es:z0oa (z7l 2 [z8ga l (l.length-i-1),z7Wa l d i])=z7Wa l d (i+1):=by rw[z7Wa,show l.length-1-i=l.length-i-1 by omega];rfl
  have ei:(((l.length-i:Nat):Int)-1).toNat=l.length-i-1:=by omega
  refine z4a fun Q4 hQ4=> ?_
  simp(maxSteps:=1000000) (disch:=first|omega|(simp;done)|(simp;omega)) [z9a,z1a,z0a,z6S,kT,kF,dT,dF,lt',z8ia,hat,hdl,fl,tk,h169,np,h165,sp2,es,z8a,z4Ea,z0g,ei]
  refine⟨⟨by omega,by omega⟩,⟨by omega,by omega⟩,by omega,?_⟩
  rw[hQ4]
  refine⟨i+1,by omega,by omega,?_⟩
  have fl1:=z4Ea l d (i+1)
  simp[z3Qc,z8a,fl,fl1]
  omega
 ·have lt':¬(i:Int)<t:=by omega
  have hit:i=t:=by omega
  subst hit
  have et:dgs (z0ra l d i)=dgs (l.take (l.length-i))++z7Wa l d i:=by rw[z0ra,z87a,z9V,z6yb,List.append_nil]
  have el:(z0ra l d i).length=l.length-i+1:=by simp[z0ra]
  have edl:(dgs (z0ra l d i)).length=(l.length-i+1)*16:=by rw[z0q (z27b hl d i),el]
  have ht:=z75 hl (l.length-i)
  have hs:splice (bys (dgs l)) ((l.length-i)*16) (bys (z7Wa l d i))=bys (dgs (z0ra l d i)++(dgs l).drop ((l.length-i)*16+16)):=by
   rw[et,←ht]
   simp[splice,z9s,fl]
  have hk:∀X,List.take ((l.length-i+1)*16) (bys (dgs (z0ra l d i)++X))=bys (dgs (z0ra l d i)):=fun X=>by
   rw[z8Mb,←edl,List.take_left]
  have sp0:∀a b c e:z2a,splice [a,b] 0 [c,e]=[c,e]:=fun _ _ _ _=>z8a rfl
  have ic:∀a b c e f,z0d (.bv a b c e f)=True:=fun _ _ _ _ _=>rfl
  have cb:∀a b c e f,z5q (.bv a b c e f)=[.bv a b c e f]:=fun _ _ _ _ _=>rfl
  simp(maxSteps:=1000000) (disch:=first|omega|(simp;done)|(simp;omega)) [z9a,z1a,z0a,z6S,kT,kF,dT,dF,lt',hQ2]
  unfold z2ja
  rw[z6n]
  refine z4a fun Q5 hQ5=> ?_
  rw[z8z]
  iterate 10
   first|rw[z6xb,z2ec]|rw[z6xb,z60b]
   refine⟨?_,?_⟩
   ·simp(maxSteps:=30000) (disch:=first|omega|(simp;done)|(simp;omega)) [z9a,z8a,fl,tk,cb,sp0,ic,hdl]
    try omega
   simp(maxSteps:=30000) (disch:=first|omega|(simp;done)|(simp;omega)) [z9a,z8a,fl,tk,cb,sp0,ic,hs,-z6xb]
  rw[z6xb]
  refine⟨?_,?_⟩
  ·simp
  ·have di:∀(ids:List Nat) (f:Nat→List z2a) (k:Int),z2za ids f (i64 k)=i64 k:=fun _ _ _=>rfl
   have du:∀(ids:List Nat) (f:Nat→List z2a),z2za ids f .undef= .undef:=fun _ _=>rfl
   simp[hk,z2za,di,du]
   rw[hQ5]
   simp(maxSteps:=1000000) (disch:=first|omega|(simp;done)|(simp;omega)) [z9a,z1a,z0a,hQ0,pkA,z5w,el]
theorem z9od (E:Env) (h165:E.G 165=shM) (h166:E.G 166=z0Wa) (h169:E.G 169=z5Ga) (h179:E.G 179=z0db) (h180:E.G 180=z2ib) (h181:E.G 181=tzC):∀ds,z6Wb.pre ds→ds.length=z2l.n∧awp E z2l.body (z0m z2l.res (z6Wb.post ds)) (z3b z2l.wr ds):=by
 rintro _ ⟨n,nl,l,d,hn,hl,hlen,hd,rfl⟩
 rw[show z6Wb.post [pkA n nl l,.agg (bys d)]= .tup [pkA (z7Wb n l d).1.1 (z6rc n l) (z7Wb n l d).1.2,i64 (z7Wb n l d).2] from z0pb hl rfl rfl,z7Wb,z6rc]
 unfold pkA z5w
 have v1:=z9Ra (nl:=nl) hn hl hlen rfl rfl
 have v2:=z3fa (n:=n) (m:= .plain) (nl:=nl) hl rfl rfl
 have c1:=z2nc (nl:=nl) hl hlen rfl rfl
 have c2:=z2pa (m:= .plain) (nl:=nl) hl rfl rfl
 have hk:okP n l.length=false∨okP n l.length=true:=by cases okP n l.length<;>simp
 rcases hk with ho|ho
 ·rw[ho] at v2
  have x1:¬(okP n l.length=true∧n≠4294967296):=by simp[ho]
  have x2:¬(okP n l.length=true∧n≠4294967296∧0<t1N n.toNat):=by simp[ho]
  rw[if_neg x1,if_neg x2]
  simp(maxSteps:=1000000) (disch:=first|omega|(simp;done)|(simp;omega)) [z9a,z1a,z0a,z2l,h179,v1,v2,kT,kF,hd,z8a]
  skip
 ·rw[ho] at v2
  by_cases h2:n=4294967296
  ·have x1:¬(okP n l.length=true∧n≠4294967296):=by simp[h2]
   have x2:¬(okP n l.length=true∧n≠4294967296∧0<t1N n.toNat):=by simp[h2]
   rw[if_neg x1,if_neg x2]
   subst h2
   simp(maxSteps:=1000000) (disch:=first|omega|(simp;done)|(simp;omega)) [z9a,z1a,z0a,z2l,h179,v1,v2,kT,kF,hd,z8a]
   skip
  ·obtain⟨g0,g1,g2⟩:0≤n∧n<4294967296∧l.length=oN n.toNat:=by
    simp only[okP,Bool.and_eq_true,decide_eq_true_eq] at ho
    exact⟨ho.1.1,by omega,ho.2⟩
   have gt:=z9Da n.toNat
   have hbF:(n==4294967296)=false:=by simpa using h2
   by_cases h3:0<t1N n.toNat
   ·rw[if_pos ⟨ho,h2⟩,if_pos ⟨ho,h2,h3⟩]
    simp(maxSteps:=1000000) (disch:=first|omega|(simp;done)|(simp;omega)) [z9a,z1a,z0a,z2l,h179,v1,v2,kT,kF,hd,z8a,hbF,dF,h2,z90,h180,c1,c2]
    refine .inl ?_
    have lp:0<l.length:=by omega
    have ar:=z5be E h165 h166 h169 h181 (nl:=nl) g0 g1 hl hlen hd rfl h3 (by omega) rfl
    generalize z8F=tq at*
    simp(maxSteps:=1000000) (disch:=first|omega|(simp;done)|(simp;omega)) [z9a,z1a,z0a,lp]
    refine⟨⟨rfl,fun c hc=> ?_,rfl,rfl⟩,ar⟩
    simp only[bys,List.mem_map] at hc
    obtain⟨x,_,rfl⟩:=hc
    rfl
   ·rw[if_pos ⟨ho,h2⟩,if_neg (fun h=>h3 h.2.2)]
    have h30:t1N n.toNat=0:=by omega
    rw[h30]
    simp(maxSteps:=1000000) (disch:=first|omega|(simp;done)|(simp;omega)) [z9a,z1a,z0a,z2l,h179,v1,v2,kT,kF,hd,z8a,hbF,dF,h2,z90,h180,c1,c2]
    refine .inr ?_
    exact z3de E h165 h166 h169 h181 g0 g1 hl hlen hd h30 rfl
end Go.Abs
end

section
namespace Go.Abs
@[simp] theorem z5Bd (ks:List Nat) (o e:List (Nat×z2a)) (b:List (Nat×Option (List z2a))):z1b (.rebase ks) ⟨o,e,b⟩=⟨z94a (ASt.get ⟨o,e,b⟩) ks++o,e.filter fun p=> !ks.contains p.1,b⟩:=by
 rw[z4hb];rfl
end Go.Abs
end

section
namespace Go.Abs
def z6h (l:List z3h):List z2a:=l.flatMap (z8j none none none)
def z13a (l:List z3h):Prop:=∀x∈l,x.small
def z5n (nl:Option Bool) (l:List z3h):z2a:= .sl .plain nl l.length (z6h l)
theorem z3lb (a b:List z3h):z6h (a++b)=z6h a++z6h b:=List.flatMap_append
theorem z9kb (x:z3h):z6h [x]=z8j none none none x:=by simp[z6h]
theorem z02a {x:z3h} (h:x.small):(z8j none none none x).length=30:=z4V h.1.2.2.2.2.2.1
theorem z3z {l:List z3h} (h:z13a l):(z6h l).length=l.length*30:=by
 induction l with
 |nil=>rfl
 |cons a l ih=>
  have:=ih fun m hm=>h m (by simp[hm])
  rw[z6h] at this⊢
  rw[List.flatMap_cons,List.length_append,this,z02a (h a (by simp)),List.length_cons];omega
theorem z8fb {l:List z3h} (h:z13a l) {i:Nat} (hi:i<l.length):((z6h l).drop (i*30)).take 30=z8j none none none l[i]:=by
 have e1:=z3ga (enc:=z8j none none none) (P:=z3h.small) (w:=30) (fun a ha=>z02a ha) l i h
 rw[show z6h l=l.flatMap (z8j none none none) from rfl,e1,List.drop_eq_getElem_cons hi,List.flatMap_cons,List.take_left' (z02a (h _ (List.getElem_mem hi)))]
theorem z2Vb {l:List z3h} (h:z13a l) (i:Nat):(z6h l).drop (i*30)=z6h (l.drop i):=z3ga (enc:=z8j none none none) (P:=z3h.small) (w:=30) (fun a ha=>z02a ha) l i h
theorem z5Sb {l:List z3h} (h:z13a l) (i:Nat):(z6h l).take (i*30)=z6h (l.take i):=by
 have h1:z13a (l.take i):=fun x hx=>h x (List.mem_of_mem_take hx)
 by_cases hi:i≤l.length
 ·conv=>lhs;rw[←List.take_append_drop i l,z3lb]
  rw[List.take_left' (by rw[z3z h1,List.length_take];congr 1;omega)]
 ·rw[List.take_of_length_le (by rw[z3z h];exact Nat.mul_le_mul_right _ (by omega)),List.take_of_length_le (by omega)]
@[simp] theorem z2kd (l:List z3h):z3f (z6h l)=true:=by
 refine(z7g _).2 fun c hc=> ?_
 obtain⟨m,_,h⟩:=List.mem_flatMap.1 hc
 exact(z7g _).1 (z5Zb none none none m) c h
def z59a (n:Nat) (cs:List z2a):List z3h:=gLw 30 z1ib n cs
theorem z3Qa {l:List z3h} (h:z13a l):z59a l.length (z6h l)=l:=z8Yb (enc:=z8j none none none) (P:=z3h.small) (fun a ha=>z02a ha) (fun a ha=>z5Cb ha) l h
/-! ### logs -/
structure z3M where
 size:Nat
 roots:List (List UInt8)
 ents:List z3h
def z9W (nr ne:Option Bool) (l:z3M):z2a:= .agg [i64 l.size,z5w nr l.roots,z5n ne l.ents]
def z03a (d:z2a):z3M:=match d with| .agg [a,b,c]=>⟨(asI a).toNat,gDs b,z59a (gNn c) (gCs c)⟩|_=>⟨0,[],[]⟩
structure z3M.ok (l:z3M):Prop where
 r:z2p l.roots
 o:l.roots.length=oN l.size
 e:z13a l.ents
 n:l.ents.length≤1000
 s:l.size+l.ents.length≤62000
def z3M.len (l:z3M):Nat:=l.size+l.ents.length
theorem z0ob {nr ne:Option Bool} {l:z3M} (h:l.ok):z03a (z9W nr ne l)=l:=by
 simp only[z03a,z9W,z5w,z5n,gNn,gCs,z3Qa h.e,z8A h.r]
 simp
def z4h (l:List z3h):List (List UInt8):=l.map fun x=>z4j 8 [z7Xa x]
theorem z0Mb (l:List z3h):z2p (z4h l):=fun d hd=>by
 obtain⟨x,_,rfl⟩:=List.mem_map.1 hd
 exact z1h _ _
def z0Qa:z5a:=⟨fun ds=>∃(nr ne:Option Bool) (l:z3M),l.ok∧ds=[z9W nr ne l],fun ds=>i64 ((z03a (nth ds 0)).len:Int)⟩
theorem z4Ga {nr ne:Option Bool} {l:z3M} (h:l.ok):z0Qa.pre [z9W nr ne l]=True:=eq_true ⟨nr,ne,l,h,rfl⟩
theorem z63 {nr ne:Option Bool} {l:z3M} (h:l.ok):z0Qa.post [z9W nr ne l]=i64 (l.len:Int):=by
 show i64 ((z03a (z9W nr ne l)).len:Int)=_
 rw[z0ob h]
def z2nb:z5a:=⟨fun ds=>∃(nl:Option Bool) (l:List z3h),z13a l∧l.length≤1000000∧ds=[z5n nl l],fun ds=>match nth ds 0 with| .sl _ nl n cs=> .sl .clip nl n cs|_=> .undef⟩
def z05a:z5a:=⟨fun ds=>∃(nl:Option Bool) (n:Nat) (cs:List z2a),cs.length=n*30∧(∀c∈cs,z8d c=true∧z0d c)∧n≤1000000∧ds=[.sl .plain nl n cs],fun ds=>match nth ds 0 with| .sl _ _ n cs=> .sl (.own 30) none n cs|_=> .undef⟩
def z6qb (l:z3M) (x:z3h):z3M×Nat:=if okE x=false then(⟨0,[],[]⟩,1) else if l.ents.length>0∧x.time<(l.ents.getLastD x).time then(⟨0,[],[]⟩,20) else(⟨l.size,l.roots,l.ents++[x]⟩,0)
end Go.Abs
end
