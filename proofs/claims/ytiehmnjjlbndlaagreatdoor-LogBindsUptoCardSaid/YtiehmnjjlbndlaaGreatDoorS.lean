/- Lemmas. -/
import Derived.Test.YtiehmnjjlbndlaaGreatDoorP
set_option linter.all false
namespace Go.Abs
set_option maxRecDepth 100000
def FL:nH:=
 {n:=1,wr:=[],res:=[.t 2],body:=YR [1] [.norm [1]] [Yx 1 1 3 0,Yc 2 0] (YR [2] [.norm [1]] [Yf 3 0 1,Yf 4 0 3,Yl 5 1 4,Yf 6 2 1,Yl 7 1 6,Yn 8 7,Yb 9 .add 5 8,Ym 2 9] .ret)}
def DQ:av:=
 Yq (.block 1 (YR [2,3,5,46] [.norm [2,3]] [Yf 35 2 2,Yl 36 2 35,Ym 37 5,Yi 38 1 36 37,Yj 39 38,Yf 40 2 3,Yl 41 3 40,Ym 42 5,Yi 43 1 41 42,Yj 44 43,YK 45 60 39 44,YU 46 .not 45] (Yd 46 (Yr [4] [Yw 4 false] .ret) (Yy [2,3,5])))) (Yu [2,3,5] [Ym 33 5,YB 34 .add 33 1,Ym 5 34])
def DS:av:=
 Yq (YR [2,3,5,32] [.norm [2,3]] [Ym 28 5,Yf 29 2 2,Yl 30 2 29,Yn 31 30,Yb 32 .lss 28 31] (Yd 32 (Yy [2,3,5]) (YY []))) DQ
def DN:av:=
 Yr [4] [Yw 4 true] .ret
def DR:av:=
 Yq (Yr [2,3,5] [Yc 5 0] (.block 0 (.loop DS))) DN
def FQ:nH:=
 {n:=2,wr:=[],res:=[.t 4],body:=YR [2,3] [.norm [2,3]] [Yx 2 2 3 0,Yx 3 3 3 1,Yw 4 false] (Yq (YR [2,3,27] [.norm [2,3]] [Yf 6 0 2,Yl 7 2 6,Yf 8 0 3,Yl 9 3 8,Yb 10 .neq 7 9,Ym 11 10,Yg 11 (Yf 12 2 2),Yg 11 (Yl 13 2 12),Yg 11 (Yn 14 13),Yg 11 (Yf 15 2 3),Yg 11 (Yl 16 3 15),Yg 11 (Yn 17 16),Yg 11 (Yb 18 .neq 14 17),YP 19 11 18,Ym 20 19,Yg 20 (Yf 21 1 2),Yg 20 (Yl 22 2 21),Yg 20 (Yf 23 1 3),Yg 20 (Yl 24 3 23),Yg 20 (YK 25 376 22 24),Yg 20 (YU 26 .not 25),YP 27 20 26] (Yd 27 (Yr [4] [Yw 4 false] .ret) (Yy [2,3]))) DR)}
def Dd:av:=
 Yq (.block 1 (.region [4,6,7,8] [.norm [2,4,7]] [YL 48 2 7 7,Ym 49 6,Ym 50 8,Yi 51 16 49 50,YJ 52 16 51,YK 53 212 48 52,Ym 47 53,Ye 54 0 47,Ye 55 1 47,Ys 2 7 7 54])) (Yu [4,6,7,8] [Ym 45 8,YB 46 .add 45 1,Ym 8 46])
def Dr:av:=
 Yq (Yr [4,6,7,8,44] [Ym 41 8,Ym 42 6,Yn 43 42,Yb 44 .lss 41 43] (Yd 44 (Yy [4,6,7,8]) (YY [4,7]))) Dd
def Dw:av:=
 YR [4,5] [.norm [2,4,7]] [YL 56 2 7 7,Ys 2 4 4 56,Yc 5 0] .ret
def Dp:av:=
 YR [2,4,6] [.norm [2,4]] [Yf 21 2 2,Yl 22 2 21,Ym 23 1,Yf 24 0 2,Yf 25 0 24,Yl 26 2 25,Yb 27 .sub 23 26,YX 28 30 22 27,Yk 29 382 28,YM 6 29] (YR [2,4,6,7] [.norm [2,4,7],.reB 7 1 (some 16),.norm [2,4,7]] [Yf 30 0 2,Yf 31 0 30,Yl 32 2 31,Yo 33 (.build [i64 0,.sl .plain (some true) 0 []] [(0,1,.s 32)]),YH 7 7,Ys 2 7 7 33] (YR [4,6,7] [.norm [2,4,7],.reB 7 1 none,.norm [2,4,7]] [Yf 34 1 7,Yo 35 (.load none (some 7) true (.s 34)),Yf 36 0 2,Yf 37 1 36,Yl 38 2 37,YN 39 16 16 35 38,Yf 40 1 7,YO (.store none 7 true (.s 40) (.s 39))] (Yq (Yr [4,6,7,8] [Yc 8 0] (.block 0 (.loop Dr))) Dw)))
def Fg:nH:=
 {n:=2,wr:=[],res:=[.cell 4 (some 2) 4,.t 5],body:=YR [2,4] [.norm [2,4]] [Yx 2 2 3 0,YH 4 4,Yc 5 0] (Yq (YR [2,4,19] [.norm [2,4]] [Ym 9 1,Yf 10 0 2,Yf 11 0 10,Yl 12 2 11,Yb 13 .lss 9 12,Ym 14 13,Yg 14 (Ym 15 1),Yg 14 (YL 16 3 2 2),Yg 14 (Yk 17 375 16),Yg 14 (Yb 18 .gtr 15 17),YP 19 14 18] (Yd 19 (YR [4,5] [.norm [2,4]] [Yo 20 (.build [i64 0,.sl .plain none 0 []] []),Ys 2 4 4 20,Yc 5 11] .ret) (Yy [2,4]))) Dp)}
def FD:nH:=
 {n:=1,wr:=[],res:=[.cell 2 (some 16) 2],body:=YR [1,2] [.norm [1,2]] [Yx 1 1 3 0,Yz 2 2 16] (YR [2,3] [.norm [1,2,3]] [YL 8 3 1 1,YL 9 3 1 1,Yk 10 375 9,YK 11 379 8 10,Ym 7 11,Ye 12 0 7,Ye 13 1 7,YH 3 3,Ys 2 3 3 12,Ym 4 13] (YR [2,5] [.norm [1,2,3,5]] [YL 15 2 3 3,Yk 16 213 15,Ym 14 16,Ye 17 0 14,Ye 18 1 14,Yz 5 5 16,Ys 16 5 5 17,Ym 6 18] (YR [2] [.norm [1,2,3,5]] [YL 19 16 5 5,Ys 16 2 2 19] .ret)))}
def rX:av:=
 Yq (.block 1 (Yr [5,6] [Ym 18 0,Ym 19 5,Yi 20 30 18 19,YJ 21 30 20,Ym 22 1,Ym 23 5,Yi 24 30 22 23,YJ 25 30 24,YK 26 329 21 25,Ym 6 26] (Yr [5,28] [Ym 27 6,YU 28 .not 27] (Yd 28 (Yr [4] [Yw 4 false] .ret) (Yy [5]))))) (Yu [5] [Ym 16 5,YB 17 .add 16 1,Ym 5 17])
def qI:av:=
 Yq (Yr [5,15] [Ym 12 5,Ym 13 0,Yn 14 13,Yb 15 .lss 12 14] (Yd 15 (Yy [5]) (YY []))) rX
def ug:av:=
 Yr [4] [Yw 4 true] .ret
def ui:av:=
 Yq (Yr [5] [Yc 5 0] (.block 0 (.loop qI))) ug
def oW:nH:=
 {n:=2,wr:=[],res:=[.t 4],body:=Yr [] [Yw 4 false] (Yq (Yr [11] [Ym 7 0,Yn 8 7,Ym 9 1,Yn 10 9,Yb 11 .neq 8 10] (Yd 11 (Yr [4] [Yw 4 false] .ret) (Yy []))) ui)}
def uz:av:=
 Yq (.block 1 (YR [3,5,7,8,9] [.norm [3,5]] [Yf 56 1 5,Yl 57 5 56,Ym 58 8,Yi 59 30 57 58,YJ 60 30 59,Yk 61 331 60,Ym 9 61] (Yr [3,5,7,8,63] [Ym 62 9,YU 63 .not 62] (Yd 63 (Yr [6] [Yc 6 1] .ret) (Yy [3,5,7,8]))))) (Yu [3,5,7,8] [Ym 54 8,YB 55 .add 54 1,Ym 8 55])
def sm:av:=
 Yq (Yr [3,5,7,8,53] [Ym 51 8,Ym 52 7,Yb 53 .lss 51 52] (Yd 53 (Yy [3,5,7,8]) (YY [3,5,7]))) uz
def uB:av:=
 Yq (.block 3 (YR [3,5,7,10,11,12,13,14] [.norm [3,5,11,13]] [YL 80 2 11 11,Ym 81 10,Ym 82 12,Yi 83 16 81 82,YJ 84 16 83,YK 85 212 80 84,Ym 79 85,Ye 86 0 79,Ye 87 1 79,YH 13 13,Ys 2 13 13 86,Ym 14 87] (Yq (Yr [3,5,7,10,11,12,13,89] [Ym 88 14,YB 89 .neq 88 0] (Yd 89 (Yr [6] [Yc 6 1] .ret) (Yy [3,5,7,10,11,12,13]))) (.region [3,5,7,10,11,12] [.norm [3,5,11,13]] [YL 90 2 13 13,Ys 2 11 11 90])))) (.region [3,5,7,10,11,12] [.drop [13]] [Ym 77 12,YB 78 .add 77 1,Ym 12 78])
def si:av:=
 Yq (Yr [3,5,7,10,11,12,76] [Ym 74 12,Ym 75 7,Yb 76 .lss 74 75] (Yd 76 (Yy [3,5,7,10,11,12]) (.ghost (.keep [3,5,7,11]) (.exit 2)))) uB
def uC:av:=
 Yr [6] [Yc 6 0] .ret
def sn:av:=
 YR [3,5,7,15] [.norm [3,5,11,13,15]] [YL 92 2 11 11,Yk 93 213 92,Ym 91 93,Ye 94 0 91,Ye 95 1 91,Yz 15 15 16,Ys 16 15 15 94,Ym 16 95] (YR [17] [.norm [3,5,11,13,15]] [YL 96 16 15 15,YL 97 16 3 3,Yf 98 0 5,Yl 99 5 98,Ym 100 7,Yb 101 .add 99 100,Ym 102 1,Yf 103 2 5,Yl 104 5 103,YI 105 1 104 1,Yj 106 105,YT 107 206 [96,97,101,102,106],Ym 17 107] (Yq (Yr [109] [Ym 108 17,YU 109 .not 108] (Yd 109 (Yr [6] [Yc 6 8] .ret) (Yy []))) uC))
def sk:av:=
 YR [3,5,7,10] [.norm [3,5]] [Yf 64 1 5,Yl 65 5 64,Yk 66 382 65,YM 10 66] (YR [3,5,7,10,11] [.norm [3,5,11]] [Yf 67 0 5,Yl 68 5 67,Yf 69 2 5,Yl 70 5 69,YI 71 1 70 0,Yj 72 71,Yo 73 (.build [i64 0,.sl .plain none 0 []] [(0,1,.s 68),(1,1,.s 72)]),YH 11 11,Ys 2 11 11 73] (Yq (Yr [3,5,7,10,11,12] [Yc 12 0] (.block 2 (.loop si))) sn))
def uA:av:=
 Yq (Yr [3,5,7,8] [Yc 8 0] (.block 0 (.loop sm))) sk
def pH:nH:=
 {n:=3,wr:=[],res:=[.t 6],body:=YR [3,5] [.norm [3,5]] [Yx 3 3 16 0,Yx 5 5 3 2,Yc 6 0] (YR [3,5,7] [.norm [3,5]] [Yf 18 1 5,Yl 19 5 18,Yn 20 19,Ym 7 20] (Yq (YR [3,5,7,50] [.norm [3,5]] [Ym 21 7,YB 22 .eql 21 0,Ym 23 22,Yg 23 (Yf 24 0 5),Yg 23 (Yl 25 5 24),Yg 23 (YB 26 .lss 25 0),YP 27 23 26,Ym 28 27,Yg 28 (Ym 29 1),Yg 28 (Ym 30 7),Yg 28 (Yb 31 .lss 29 30),YP 32 28 31,Ym 33 32,Yg 33 (Yf 34 0 5),Yg 33 (Yl 35 5 34),Yg 33 (Ym 36 1),Yg 33 (Ym 37 7),Yg 33 (Yb 38 .sub 36 37),Yg 33 (Yb 39 .gtr 35 38),YP 40 33 39,Ym 41 40,Yg 41 (Ym 42 1),Yg 41 (YB 43 .gtr 42 65536),YP 44 41 43,Ym 45 44,Yg 45 (Yf 46 2 5),Yg 45 (Yl 47 5 46),Yg 45 (Yn 48 47),Yg 45 (YB 49 .neq 48 2),YP 50 45 49] (Yd 50 (Yr [6] [Yc 6 1] .ret) (Yy [3,5,7]))) uA))}
def vw:av:=
 Yq (.block 1 (Yu [3,4] [YM 11 3,Ym 12 0,Ym 13 4,Yi 14 30 12 13,YJ 15 30 14,Yk 16 334 15,YQ 17 16,YN 18 16 16 11 17,YM 3 18])) (Yu [3,4] [Ym 9 4,YB 10 .add 9 1,Ym 4 10])
def sZ:av:=
 Yq (Yr [3,4,8] [Ym 5 4,Ym 6 0,Yn 7 6,Yb 8 .lss 5 7] (Yd 8 (Yy [3,4]) (YY [3]))) vw
def vu:av:=
 Yr [2] [YM 19 3,YM 2 19] .ret
def py:nH:=
 {n:=1,wr:=[],res:=[.t 2],body:=Yr [] [Yv 2 16] (Yr [3] [Yv 3 16] (Yq (Yr [3,4] [Yc 4 0] (.block 0 (.loop sZ))) vu))}
@[simp] theorem z2wa(ps:List (Bool×Option Bool×List UInt8)):(mls ps).length=ps.length:=by simp[mls]
def atP(ps:List (Bool×Option Bool×List UInt8))(i:Nat):Bool×Option Bool×List UInt8:=ps.getD i (true,none,[])
theorem UT{ps:List (Bool×Option Bool×List UInt8)}{i:Nat}(h:i<ps.length):atP ps i=ps[i]:=by simp[atP,List.getD,List.getElem?_eq_getElem h]
@[simp] theorem z9ra(b:Bool)(nl:Option Bool)(n:Nat)(cs:List oH):dem (.sl (mdA b) nl n cs)= .sl .plain nl n cs:=by cases b<;>rfl
theorem z1p{ps:List (Bool×Option Bool×List UInt8)}{i:Nat}(h:i<ps.length):hdA ((mls ps).drop i)= .sl (mdA (atP ps i).1) (atP ps i).2.1 (atP ps i).2.2.length (bys (atP ps i).2.2):=by rw[mls,<-List.map_drop,List.drop_eq_getElem_cons h,List.map_cons,UT h];rfl
def Nb(ps:List (Bool×Option Bool×List UInt8)):Nat:=(ps.map λp=>p.2.2.length).sum
theorem z7Q(ps:List (Bool×Option Bool×List UInt8)):z3k (ps.map (·.2))=Nb ps:=by rw[z3k,Nb,List.map_map];rfl
theorem Ro(a b:List (Bool×Option Bool×List UInt8)):Nb (a++b)=Nb a+Nb b:=by
 induction a with
 |nil=>simp[Nb]
 |cons x a ih=>simp only[Nb,List.cons_append,List.map_cons,List.sum_cons] at ih⊢;omega
theorem KI{ps:List (Bool×Option Bool×List UInt8)}{i:Nat}(h:i<ps.length):Nb (ps.take (i+1))=Nb (ps.take i)+(atP ps i).2.2.length:=by rw[List.take_succ_eq_append_getElem h,Ro,UT h];rfl
theorem BO(ps:List (Bool×Option Bool×List UInt8))(i:Nat):Nb (ps.take i)<=Nb ps:=by have:=Ro (ps.take i) (ps.drop i);rw[List.take_append_drop] at this;omega
theorem Mj{ps:List (Bool×Option Bool×List UInt8)}{i:Nat}(h:i<ps.length):(ps.take (i+1)).flatMap (·.2.2)=(ps.take i).flatMap (·.2.2)++(atP ps i).2.2:=by rw[List.take_succ_eq_append_getElem h,List.flatMap_append,List.flatMap_cons,List.flatMap_nil,List.append_nil,UT h]
theorem z4K(ps:List (Bool×Option Bool×List UInt8)):(ps.flatMap (·.2.2)).length=Nb ps:=by simp[Nb,List.length_flatMap]
theorem UD(E:Env)(h139:E.G 139=N4):∀ds,uS.pre ds->ds.length=sA.n∧awp E sA.body (qH sA.res (uS.post ds)) (fP sA.wr ds):=by
 rintro _ ⟨nl,ps,ht,hps,rfl⟩;rw[Ei];rw[z7Q] at ht;simp(maxSteps:=999999) (disch:=first|omega|simp<;>omega|rfl) [fJ,oG,oF,sA,Bx,BG];refine oI λQ0 hQ0=> ?_;simp(maxSteps:=999999) (disch:=first|omega|simp<;>omega|rfl) [fJ,oG,oF,BV];refine dH (λi:Nat=>⟨[(0,.sl .plain nl ps.length (mls ps))],[(3,i64 (Nb (ps.take i):Nat)),(9,.sl .plain nl ps.length (mls ps)),(10,i64 ps.length),(11,i64 i)],[]⟩)
  (λi=>ps.length-i) (λi=>i<=ps.length) 0 (by simp[Nb]) (by simp) λi hi=> ?_
 refine oI λQ1 hQ1=> ?_;have tl:=BO ps i;by_cases h1:i<ps.length
 ·have ts:=KI h1;have tl':=BO ps (i+1);generalize hX:atP ps i=x at*
  obtain⟨xm,xn,xb⟩:=x;simp only at ts;have hneg:¬((Nb (ps.take i):Int)+xb.length<0):=by omega
  simp(maxSteps:=999999) (disch:=first|omega|simp<;>omega|rfl) [fJ,oG,oF,xe,wY,BR,By,BM,BD,kT,kF,dT,dF,h1,z1p,hX,hQ1,hneg];exact⟨by omega,i+1,by omega,by omega,by omega,by omega⟩
 obtain rfl:i=ps.length:=by omega
 simp(maxSteps:=999999) (disch:=first|omega|simp<;>omega|rfl) [fJ,oG,oF,xe,wY,kT,kF,dT,dF,hQ1,hQ0,BK,Bz,Ba,h139,z9h];refine dH (λi:Nat=>⟨[(0,.sl .plain nl ps.length (mls ps))],[(6,.sl (.own 1) none ((ps.take i).flatMap (·.2.2)).length (bys ((ps.take i).flatMap (·.2.2)))),(25,.sl .plain nl ps.length (mls ps)),(26,i64 ps.length),(27,i64 i)],[]⟩)
  (λi=>ps.length-i) (λi=>i<=ps.length) 0 (by simp) (by simp) λi hi=> ?_
 refine oI λQ2 hQ2=> ?_;have tl:=BO ps i;by_cases h1:i<ps.length
 ·have cs:=Mj h1;have cl:=z4K (ps.take (i+1));have tl':=BO ps (i+1);generalize hX:atP ps i=x at*
  obtain⟨xm,xn,xb⟩:=x;simp only at cs;generalize hF:(ps.take i).flatMap (·.2.2)=F at*
  simp(maxSteps:=999999) (disch:=first|omega|simp<;>omega|rfl) [fJ,oG,oF,xi,vG,Bb,AI,kT,kF,dT,dF,h1,z1p,hX,hQ2];have e:Nb (ps.take (i+1))=(List.take (i+1) (List.map (λa=>a.2.2.length) ps)).sum:=by rw[Nb,List.map_take]
  rw[cs,List.length_append] at cl;exact⟨by omega,by omega,i+1,by omega,by omega,⟨by rw[<-e];exact cl,cs.symm⟩,by omega⟩
 obtain rfl:i=ps.length:=by omega
 simp(maxSteps:=999999) (disch:=first|omega|simp<;>omega|rfl) [fJ,oG,oF,xi,vG,kT,kF,dT,dF,hQ2,A3]
def atD(l:List sy)(i:Nat):sy:=l.getD i mad0
theorem JJ{l:List sy}{i:Nat}(h:i<l.length):atD l i=l[i]:=by simp[atD,List.getD,List.getElem?_eq_getElem h]
theorem MZ{l:List sy}{i:Nat}(h:i<l.length):atD l i∈l:=by rw[JJ h];exact List.getElem_mem h
theorem TW{l:List sy}(h:z6 l){i:Nat}(hi:i<l.length):((se l).drop (i*24)).take 24=uK (atD l i):=by have e1:=Dk (enc:=uK) (P:=PU) (w:=24) (λa ha=>uc ha) l i (sh h);have hd:=sh h _ (List.getElem_mem hi);rw[show se l=l.flatMap uK from rfl,e1,List.drop_eq_getElem_cons hi,List.flatMap_cons,List.take_left' (uc hd),JJ hi]
@[simp] theorem mad_0(m:sy):hdA (uK m)=i64 m.id:=rfl
@[simp] theorem mad_1(m:sy):hdA ((uK m).drop 1)=i64 m.ty:=rfl
@[simp] theorem mad_1t(m:sy):hdA (uK m).tail=i64 m.ty:=rfl
@[simp] theorem mad_2(m:sy):hdA ((uK m).drop 2)=i64 m.uses:=rfl
@[simp] theorem mad_3(m:sy):hdA ((uK m).drop 3)=i64 m.beg:=rfl
@[simp] theorem mad_4(m:sy):hdA ((uK m).drop 4)=i64 m.fin:=rfl
@[simp] theorem mad_5(m:sy):hdA ((uK m).drop 5)=i64 m.ver:=rfl
@[simp] theorem mad_6(m:sy):hdA ((uK m).drop 6)=i64 m.par:=rfl
@[simp] theorem mad_7(m:sy):hdA ((uK m).drop 7)=bo m.raw:=rfl
@[simp] theorem mad_8(m:sy):(uK m).drop 8=bys m.dig:=rfl
theorem EI(m:sy):(∀c∈uK m,ah c)=True:=eq_true λc hc=>(IL c hc).2
theorem Hi(m:sy):(∀c∈uK m,ao c=false)=True:=eq_true λc hc=>by
 rcases List.mem_append.1 hc with h|h
 ·simp only[List.mem_cons,List.not_mem_nil,or_false] at h;rcases h with rfl|rfl|rfl|rfl|rfl|rfl|rfl|rfl<;>rfl
 simp only[bys,List.mem_map] at h;obtain⟨x,_,rfl⟩:=h;rfl
theorem z31{m:sy}(h:m.dig.length=16):(uK m).take 24=uK m:=List.take_of_length_le (by rw[uc h];exact Nat.le_refl _)
theorem U1{m:sy}(h:m.dig.length=16){zs:List oH}(hz:zs.length=24):splice zs 0 (uK m)=uK m:=oJ (by rw[uc h,hz])
@[simp] theorem z9qa(m:sy):au (uK m)=true:=(bE _).2 λc hc=>(IL c hc).1
@[simp] theorem z0pa(m:sy):pT (uK m)=[]:=by simp[uK,pT]
def l7(get:Nat->oH)(n:Nat):oH:=dem (get n)
@[simp] theorem nB(get:Nat->oH)(n:Nat):l7 get n=dem (get n):=rfl
@[simp ↓ high] theorem lh(E:Env)(get:Nat->oH)(getB:Nat->Option (List oH))(z:List oH)(ps:List (Nat×Nat×Arg)):eff E get getB (.build z ps)={val:= .agg (bO E (l7 get) ps z)}:=rfl
@[simp ↓ high] theorem lC(E:Env)(get:Nat->oH)(getB:Nat->Option (List oH))(z:List oH)(ps:List (Nat×Nat×Arg)):okp E get getB (.build z ps)=BP E (l7 get) ps z.length:=rfl
@[simp ↓ high] theorem lX(E:Env)(d:Nat)(z:List oH)(ps:List (Nat×Nat×Arg))(o e:List (Nat×oH))(b:List (Nat×Option (List oH))):okA E ⟨some d,none,.build z ps⟩ ⟨o,e,b⟩=
  (lk o d=none∧BP E (l7 (ASt.get ⟨o,e,b⟩)) ps z.length):=by
 have h:(∀x∈[d],lk o x=none)=(lk o d=none):=by simp
 rw[<-h];rfl
def ZZ(b:Bool):List Nat->List af->Option (List Nat)
 |ks,[]=>some ks
 |ks,⟨some d,some (t,w),op⟩::xs=>if ks.contains t&&(w !=b)&&op.wrS.isEmpty then ZZ b (ks.filter (· !=d)) xs else none
 |ks,⟨some d,none,.mv false (.s t)⟩::xs=>if ks.contains t then ZZ b (d::ks) xs else none
 |ks,⟨some d,none,.pick (.s t) (.c (.lit (.bool x))) (.s _)⟩::xs=>if ks.contains t&&b&&x then ZZ b (d::ks) xs else none
 |ks,⟨some d,none,.pick (.s t) (.s _) (.c (.lit (.bool x)))⟩::xs=>if ks.contains t&& !b&& !x then ZZ b (d::ks) xs else none
 |_,_=>none
def wrT(xs:List af):List Nat:=xs.flatMap λo=>o.dst.toList
structure z8K (b:Bool) (ks:List Nat) (ws:List Nat) (st st':ASt):Prop where
 org:st'.org=st.org
 box:st'.box=st.box
 val:∀s∈ks,st'.get s=bo b
 same:∀s,s∉ws->st'.get s=st.get s
theorem z1h(o:List (Nat×oH))(d:Nat)(v:oH)(e:List (Nat×oH))(b:List (Nat×Option (List oH)))(s:Nat):ASt.get ⟨o,(d,v)::e,b⟩ s=if s=d then v else ASt.get ⟨o,e,b⟩ s:=by
 by_cases h:s=d
 ·simp only[ASt.get,lk,if_pos h]
 simp only[ASt.get,lk,if_neg h]
theorem R7(E:Env)(b:Bool):∀(xs:List af) (ks ks':List Nat) (st:ASt),ZZ b ks xs=some ks'->(∀s∈ks,st.get s=bo b)->(∀s∈wrT xs,lk st.org s=none)->Aa E xs st∧z8K b ks' (wrT xs) st (C3 E xs st)
 |[],ks,ks',st,hc,hk,_=>by simp only[ZZ,Option.some.injEq] at hc;subst hc;exact⟨trivial,rfl,rfl,hk,λ_ _=>rfl⟩
 |o::xs,ks,ks',st,hc,hk,ho=>by
  have one:∀(d:Nat) (v:oH) (ks1:List Nat),o.dst=some d->okA E o st->ai E o st=⟨st.org,(d,v)::st.env,st.box⟩->ZZ b ks1 xs=some ks'->(∀s∈ks1,s=d->v=bo b)->(∀s∈ks1,s≠d->s∈ks)->Aa E (o::xs) st∧z8K b ks' (wrT (o::xs)) st (C3 E (o::xs) st):=by
   intro d v ks1 hd hok hst hc1 h1 h2;have hg:∀s,ASt.get ⟨st.org,(d,v)::st.env,st.box⟩ s=if s=d then v else st.get s:=λs=>z1h _ _ _ _ _ _;obtain⟨k1,k2⟩:=R7 E b xs ks1 ks' ⟨st.org,(d,v)::st.env,st.box⟩ hc1 (λs hs=>by
    rw[hg];split
    ·rename_i e;exact h1 s hs e
    rename_i e;exact hk s (h2 s hs e)) (λs hs=>ho s (by simp only[wrT,List.flatMap_cons,List.mem_append];exact .inr hs))
   refine⟨⟨hok,by rw[hst];exact k1⟩,?_⟩;show z8K b ks' (wrT (o::xs)) st (C3 E xs (ai E o st));rw[hst];refine⟨k2.org,k2.box,k2.val,λs hs=> ?_⟩;simp only[wrT,List.flatMap_cons,List.mem_append,not_or] at hs;rw[k2.same s hs.2,hg,if_neg];intro e;apply hs.1;rw[hd,e];simp
  have hW:∀d,o.dst=some d->o.op.wrS=[]->∀s∈o.W,lk st.org s=none:=λd hd hw s hs=>by apply ho;simp only[af.W,hd,hw,List.append_nil,Option.toList_some,List.mem_singleton] at hs;simp only[wrT,List.flatMap_cons,List.mem_append,hd,hs];exact .inl (by simp)
  unfold ZZ at hc;split at hc
  ·cases xs<;>simp at*
  ·rename_i ks0 d t w op xs0 e;simp only[List.cons.injEq] at e;obtain⟨rfl,rfl⟩:=e;split at hc
   ·rename_i hh;simp only[Bool.and_eq_true,List.contains_eq_mem,decide_eq_true_eq,bne_iff_ne,List.isEmpty_iff] at hh;obtain⟨⟨h1,h2⟩,h3⟩:=hh;have hv:=hk t h1;have hgate:fG (st.get t) w=false:=by rw[hv,oc];exact beq_eq_false_iff_ne.2 (Ne.symm h2)
    refine one d bR _ rfl ⟨hW d rfl h3,.inl (by rw[hv];trivial),λe=>by rw[hgate] at e;cases e⟩ ?_ hc ?_ ?_
    ·simp only[ai,hgate,Bool.false_eq_true,if_false,Option.toList_some,List.map_cons,List.map_nil,List.cons_append,List.nil_append]
    ·intro s hs e;simp[e] at hs
    intro s hs e;simp only[List.mem_filter] at hs;exact hs.1
   cases hc
  ·rename_i ks0 d t xs0 e;simp only[List.cons.injEq] at e;obtain⟨rfl,rfl⟩:=e;split at hc
   ·rename_i hh;simp only[List.contains_eq_mem,decide_eq_true_eq] at hh;have hv:=hk t hh;refine one d (bo b) _ rfl ⟨hW d rfl rfl,trivial⟩ ?_ hc (λ_ _ _=>rfl) (λs hs e=>by simpa[e] using hs);simp only[ai,eff,arg,hv,Option.toList_some,List.map_cons,List.map_nil,List.cons_append,List.nil_append];rfl
   cases hc
  ·rename_i ks0 d t x y xs0 e;simp only[List.cons.injEq] at e;obtain⟨rfl,rfl⟩:=e;split at hc
   ·rename_i hh;simp only[Bool.and_eq_true,List.contains_eq_mem,decide_eq_true_eq] at hh;obtain⟨⟨h1,rfl⟩,rfl⟩:=hh;have hv:=hk t h1;refine one d (bo true) _ rfl ⟨hW d rfl rfl,?_⟩ ?_ hc (λ_ _ _=>rfl) (λs hs e=>by simpa[e] using hs)
    ·simp only[okp,arg,hv];trivial
    simp only[ai,eff,arg,hv,Option.toList_some,List.map_cons,List.map_nil,List.cons_append,List.nil_append];rfl
   cases hc
  ·rename_i ks0 d t y x xs0 e;simp only[List.cons.injEq] at e;obtain⟨rfl,rfl⟩:=e;split at hc
   ·rename_i hh;simp only[Bool.and_eq_true,List.contains_eq_mem,decide_eq_true_eq,Bool.not_eq_true'] at hh;obtain⟨⟨h1,rfl⟩,rfl⟩:=hh;have hv:=hk t h1;refine one d (bo false) _ rfl ⟨hW d rfl rfl,?_⟩ ?_ hc (λ_ _ _=>rfl) (λs hs e=>by simpa[e] using hs)
    ·simp only[okp,arg,hv];trivial
    simp only[ai,eff,arg,hv,Option.toList_some,List.map_cons,List.map_nil,List.cons_append,List.nil_append];rfl
   cases hc
  cases hc
theorem z7w(f:Nat->oH)(keep:List Nat)(o:List (Nat×oH))(bx:List (Nat×Option (List oH))){x:Nat}(hx:x∈keep):ASt.get ⟨o,keep.map λx=>(x,f x),bx⟩ x=f x:=by have h:=qo f x keep;rw[if_pos hx] at h;simp only[ASt.get,h]
theorem o0{E:Env}{keep:List Nat}{gs:List tJ}{Q:aB->ASt->Prop}{xs ys:List af}{st:ASt}(h:∀T,T=ys->iq E keep gs Q (xs++T) st):iq E keep gs Q (xs++ys) st:=h ys rfl
theorem z5N(E:Env)(id:Nat)(b:av)(Q:aB->ASt->Prop)(s:ASt):awp E (.block id b) Q s=awp E b (dL id Q) s:=rfl
theorem yK{E:Env}{Q:aB->ASt->Prop}{s:ASt}{a b:av}(h:∀B,B=b->awp E (.seq a B) Q s):awp E (.seq a b) Q s:=h b rfl
def vdG(b:Bool)(d:Nat)(st:ASt)(x:Nat):oH:=if x=d then bo b else st.get x
@[simp] theorem vdG_eq(b:Bool)(d:Nat)(st:ASt)(x:Nat):vdG b d st x=if x=d then bo b else st.get x:=rfl
theorem Om(f:Nat->oH):∀l:List Nat,cX f l=l.map λs=>(s,f s)
 |[]=>rfl
 |s::l=>by simp only[cX,List.map_cons,Om f l]
theorem oU{E:Env}{keep:List Nat}{gs:List tJ}{Q:aB->ASt->Prop}{xs:List af}{o e:List (Nat×oH)}{bx:List (Nat×Option (List oH))}(b:Bool)(s d:Nat)(hs:ASt.get ⟨o,e,bx⟩ s=bo b)
  (hc:((ZZ b [s] xs).any λks=>ks.contains d&&keep.all λx=>x==d|| !(wrT xs).contains x)=true) (ho:((wrT xs).all λx=>(lk o x).isNone)=true)
  (h:iq E keep gs Q [] ⟨o,cX (vdG b d ⟨o,e,bx⟩) keep,bx⟩):iq E keep gs Q xs ⟨o,e,bx⟩:=by
 rw[Om] at h;simp only[vdG] at h;simp only[Option.any_eq_true,Bool.and_eq_true,List.contains_eq_mem,decide_eq_true_eq,List.all_eq_true,Bool.or_eq_true,beq_iff_eq,Bool.not_eq_true',decide_eq_false_iff_not] at hc;obtain⟨ks,h1,h2,h3⟩:=hc;simp only[List.all_eq_true,Option.isNone_iff_eq_none] at ho;obtain⟨k1,k2⟩:=R7 E b xs [s] ks ⟨o,e,bx⟩ h1 (λx hx=>by rw[List.mem_singleton.1 hx];exact hs) ho;rw[dJ] at h⊢;simp only[Aa,C3,true_and] at h;refine⟨k1,?_⟩;have:cB keep (C3 E xs ⟨o,e,bx⟩)=cB keep ⟨o,keep.map λx=>(x,if x=d then bo b else ASt.get ⟨o,e,bx⟩ x),bx⟩:=by
  unfold cB;rw[k2.org,k2.box];simp only[ASt.mk.injEq,true_and,and_true];refine List.map_congr_left λx hx=> ?_;have hg:ASt.get ⟨o,keep.map λx=>(x,if x=d then bo b else ASt.get ⟨o,e,bx⟩ x),bx⟩ x=if x=d then bo b else ASt.get ⟨o,e,bx⟩ x:=by exact z7w _ keep o bx hx
  rw[hg];rcases h3 x hx with rfl|h4
  ·rw[if_pos rfl,k2.val x h2]
  split
  ·rename_i e;rw[e,k2.val d h2]
  rw[k2.same x h4]
 rw[this];exact h
def z8t:aW:=⟨λds=>∃m:sy,m.ok∧ds=[.agg (uK m)],λds=>bo (EQ (z2j (gCs (nth ds 0))))⟩
theorem z7D{m:sy}(h:m.ok):z8t.pre [.agg (uK m)]=True:=eq_true ⟨m,h,rfl⟩
theorem QX(m:sy):z8t.post [.agg (uK m)]=bo (EQ m):=by show bo (EQ (z2j (uK m)))=_;rw[Gn]
set_option maxHeartbeats 4000000 in
theorem z0ea(E:Env)(h295:E.G 295=z8p):∀ds,z8t.pre ds->ds.length=sB.n∧awp E sB.body (qH sB.res (z8t.post ds)) (fP sB.wr ds):=by
 rintro _ ⟨m,hm,rfl⟩;rw[QX];have hd:=hm.2.2.2.2.2.2.2;have hl:=uc hd;obtain⟨Z,hZ⟩:∃Z,Z=EQ m:=⟨_,rfl⟩;rw[<-hZ];refine⟨rfl,?_⟩;simp only[sB];refine oI λQ9 hQ9=> ?_;refine yK λB hB=> ?_;simp(maxSteps:=999999) (disch:=first|omega|simp<;>omega|rfl) [fJ,oG,oF,hl,EI,Hi];rw[hB];clear hB;rw[qg];refine oI λQ1 hQ1=> ?_;rw[ji];refine o0 λT hT=> ?_;simp(maxSteps:=999999) (disch:=first|omega|simp<;>omega|rfl) [fJ,oG,oF,BS,hl,h295];by_cases c1:inR m.id 1 2147483647=true
 rotate_left
 ·refine oU false 6 2 (by simp[c1]) (by rw[hT];kernel_rfl) (by rw[hT];kernel_rfl) ?_;have hz:Z=false:=by rw[hZ];simp[EQ,NE,Qw,Jr,c1]
  simp(maxSteps:=999999) (disch:=first|omega|simp<;>omega|rfl) [fJ,oG,oF,hQ1,hQ9,hz]
 rw[hT];clear hT;refine o0 λT hT=> ?_;simp(maxSteps:=999999) (disch:=first|omega|simp<;>omega|rfl) [fJ,oG,oF,BF,hl,h295,c1];by_cases c2:inR m.ver 1 2147483647=true
 rotate_left
 ·refine oU false 11 2 (by simp[c2]) (by rw[hT];kernel_rfl) (by rw[hT];kernel_rfl) ?_;have hz:Z=false:=by rw[hZ];simp[EQ,NE,Qw,Jr,c2]
  simp(maxSteps:=999999) (disch:=first|omega|simp<;>omega|rfl) [fJ,oG,oF,hQ1,hQ9,hz]
 rw[hT];clear hT;refine o0 λT hT=> ?_;simp(maxSteps:=999999) (disch:=first|omega|simp<;>omega|rfl) [fJ,oG,oF,BI,hl,h295,c1,c2];by_cases c3:inR m.par 0 2147483647=true
 rotate_left
 ·refine oU false 16 2 (by simp[c3]) (by rw[hT];kernel_rfl) (by rw[hT];kernel_rfl) ?_;have hz:Z=false:=by rw[hZ];simp[EQ,NE,Qw,Jr,c3]
  simp(maxSteps:=999999) (disch:=first|omega|simp<;>omega|rfl) [fJ,oG,oF,hQ1,hQ9,hz]
 rw[hT];clear hT;refine o0 λT hT=> ?_;simp(maxSteps:=999999) (disch:=first|omega|simp<;>omega|rfl) [fJ,oG,oF,Br,hl,h295,c1,c2,c3];by_cases c4:inR m.ty 0 31=true
 rotate_left
 ·refine oU false 21 2 (by simp[c4]) (by rw[hT];kernel_rfl) (by rw[hT];kernel_rfl) ?_;have hz:Z=false:=by rw[hZ];simp[EQ,NE,Qw,Jr,c4]
  simp(maxSteps:=999999) (disch:=first|omega|simp<;>omega|rfl) [fJ,oG,oF,hQ1,hQ9,hz]
 rw[hT];clear hT;refine o0 λT hT=> ?_;simp(maxSteps:=999999) (disch:=first|omega|simp<;>omega|rfl) [fJ,oG,oF,BH,hl,h295,c1,c2,c3,c4];by_cases c5:gg m.uses 956=0
 rotate_left
 ·refine oU false 27 2 (by simp[c5]) (by rw[hT];kernel_rfl) (by rw[hT];kernel_rfl) ?_;have hz:Z=false:=by rw[hZ];simp[EQ,NE,Qw,Jr,c5]
  simp(maxSteps:=999999) (disch:=first|omega|simp<;>omega|rfl) [fJ,oG,oF,hQ1,hQ9,hz]
 rw[hT];clear hT;refine o0 λT hT=> ?_;simp(maxSteps:=999999) (disch:=first|omega|simp<;>omega|rfl) [fJ,oG,oF,BB,hl,h295,c1,c2,c3,c4,c5];by_cases c6:inR m.beg 0 m.fin=true
 rotate_left
 ·refine oU false 34 2 (by simp[c6]) (by rw[hT];kernel_rfl) (by rw[hT];kernel_rfl) ?_;have hz:Z=false:=by rw[hZ];simp[EQ,NE,Qw,Jr,c6]
  simp(maxSteps:=999999) (disch:=first|omega|simp<;>omega|rfl) [fJ,oG,oF,hQ1,hQ9,hz]
 rw[hT];clear hT;by_cases c7:inR m.fin 0 1099511627776=true
 rotate_left
 ·have hz:Z=false:=by rw[hZ];simp[EQ,NE,Qw,Jr,c7]
  simp(maxSteps:=999999) (disch:=first|omega|simp<;>omega|rfl) [fJ,oG,oF,hQ1,hQ9,hz,xx,hl,h295,c1,c2,c3,c4,c5,c6,c7]
 have hz:Z=true:=by rw[hZ];simp[EQ,NE,Qw,Jr,c1,c2,c3,c4,c5,c6,c7]
 simp(maxSteps:=999999) (disch:=first|omega|simp<;>omega|rfl) [fJ,oG,oF,xx,hl,h295,c1,c2,c3,c4,c5,c6,c7,hQ1,hQ9,hz]
def z3Q:oH:= .fn 297 [] [.ep [.fn 296 [] []]]
def z6N:aW:=⟨λds=>∃m:sy,m.ok∧ds=[.agg (uK m),.ep [.fn 296 [] []]],λds=>bo (!EQ (z2j (gCs (nth ds 0))))⟩
theorem Vo{m:sy}(h:m.ok):z6N.pre [.agg (uK m),.ep [.fn 296 [] []]]=True:=eq_true ⟨m,h,rfl⟩
theorem M7(m:sy):z6N.post [.agg (uK m),.ep [.fn 296 [] []]]=bo (!EQ m):=by show bo (!EQ (z2j (uK m)))=_;rw[Gn]
theorem z68(m:sy):(∀c∈uK m,ah c)=True:=eq_true λc hc=>(IL c hc).2
theorem z9za(m:sy):(∀c∈uK m,ao c=false)=True:=eq_true λc hc=>by
 rcases List.mem_append.1 hc with h|h
 ·simp only[List.mem_cons,List.not_mem_nil,or_false] at h;rcases h with rfl|rfl|rfl|rfl|rfl|rfl|rfl|rfl<;>rfl
 simp only[bys,List.mem_map] at h;obtain⟨x,_,rfl⟩:=h;rfl
theorem tk_m{m:sy}(h:m.dig.length=16):(uK m).take 24=uK m:=List.take_of_length_le (by rw[uc h];exact Nat.le_refl _)
@[simp] theorem z9aa(m:sy):au (uK m)=true:=(bE _).2 λc hc=>(IL c hc).1
@[simp] theorem z1aa(m:sy):pT (uK m)=[]:=by simp[uK,pT]
theorem z4fa(E:Env)(h296:E.G 296=z8t):∀ds,z6N.pre ds->ds.length=sC.n∧awp E sC.body (qH sC.res (z6N.post ds)) (fP sC.wr ds):=by rintro _ ⟨m,hm,rfl⟩;rw[M7];have hd:=hm.2.2.2.2.2.2.2;have hl:=uc hd;simp(maxSteps:=999999) (disch:=first|omega|simp<;>omega|rfl) [fJ,oG,oF,sC,h296,z7D hm,QX,hl,z68,z9za,tk_m hd,xX]
def z9b(p:sy->Bool)(l:List sy):Int:=if l.findIdx p<l.length then(l.findIdx p:Int) else-1
def atM(l:List sy)(i:Nat):sy:=l.getD i mad0
theorem Da{l:List sy}{i:Nat}(h:i<l.length):atM l i=l[i]:=by simp[atM,List.getD,List.getElem?_eq_getElem h]
theorem Jf{l:List sy}{i:Nat}(h:i<l.length):atM l i∈l:=by rw[Da h];exact List.getElem_mem h
theorem z3y{p:sy->Bool}{l:List sy}{i:Nat}(hi:i<l.length)(h0:∀j<i,p (atM l j)=false)(h:p (atM l i)=true):z9b p l=i:=by
 have e:l.findIdx p=i:=by
  apply Nat.le_antisymm
  ·apply Nat.le_of_not_lt;intro hlt;have:=List.not_of_lt_findIdx (p:=p) (xs:=l) hlt;rw[Da hi] at h;rw[h] at this;cases this
  apply Nat.le_of_not_lt;intro hlt;have hl:l.findIdx p<l.length:=by omega
  have h1:p l[l.findIdx p]=true:=List.findIdx_getElem (w:=hl);have h2:=h0 _ hlt;rw[Da hl,h1] at h2;cases h2
 rw[z9b,e,if_pos hi]
theorem z3B{p:sy->Bool}{l:List sy}(h0:∀j<l.length,p (atM l j)=false):z9b p l= -1:=by rw[z9b,if_neg];intro hl;have h1:p l[l.findIdx p]=true:=List.findIdx_getElem (w:=hl);have h2:=h0 _ hl;rw[Da hl,h1] at h2;cases h2
theorem z3a(p:sy->Bool)(l:List sy):decide (0<=z9b p l)=l.any p:=by
 have:l.findIdx p<l.length↔l.any p=true:=by rw[List.findIdx_lt_length,List.any_eq_true]
 unfold z9b;cases h:l.any p
 ·rw[if_neg (λe=>by rw[this.1 e] at h;cases h)];rfl
 rw[if_pos (this.2 h)];simp
theorem Jw{l:List sy}(h:z6 l){i:Nat}(hi:i<l.length):((se l).drop (i*24)).take 24=uK (atM l i):=by have e1:=Dk (enc:=uK) (P:=PU) (w:=24) (λa ha=>uc ha) l i (sh h);have hd:=sh h _ (List.getElem_mem hi);rw[show se l=l.flatMap uK from rfl,e1,List.drop_eq_getElem_cons hi,List.flatMap_cons,List.take_left' (uc hd),Da hi]
theorem z6u{l:List sy}(h:z6 l){i:Nat}(hi:i<l.length):i*24+24<=(se l).length:=by rw[wW (sh h)];omega
def Ow:aW:=⟨λds=>∃(nl:Option Bool) (l:List sy),z6 l∧l.length<=1000000∧ds=[.sl .plain nl l.length (se l),z3Q],λds=>i64 (z9b (λm=> !EQ m) (KE (gNn (nth ds 0)) (gCs (nth ds 0))))⟩
theorem Sl{nl:Option Bool}{l:List sy}(h:z6 l)(h1:l.length<=1000000):Ow.pre [.sl .plain nl l.length (se l),.fn 297 [] [.ep [.fn 296 [] []]]]=True:=eq_true ⟨nl,l,h,h1,rfl⟩
theorem Oq(nl:Option Bool){l:List sy}(h:z6 l):Ow.post [.sl .plain nl l.length (se l),.fn 297 [] [.ep [.fn 296 [] []]]]=i64 (z9b (λm=> !EQ m) l):=by show i64 (z9b (λm=> !EQ m) (KE l.length (se l)))=_;rw[GE (sh h)]
set_option maxHeartbeats 4000000 in
theorem z0L(E:Env)(h297:E.G 297=z6N):∀ds,Ow.pre ds->ds.length=oY.n∧awp E oY.body (qH oY.res (Ow.post ds)) (fP oY.wr ds):=by
 rintro _ ⟨nl,l,h16,hl,rfl⟩;unfold z3Q;rw[Oq nl h16];have hlen:=wW (sh h16);simp(maxSteps:=999999) (disch:=first|omega|simp<;>omega|rfl) [fJ,oG,oF,oY];refine oI λQ0 hQ0=> ?_;refine dH (λi:Nat=>⟨[(0,.sl .plain nl l.length (se l)),(1,.fn 297 [] [.ep [.fn 296 [] []]])],[(7,i64 l.length),(8,i64 i)],[]⟩)
  (λi=>l.length-i) (λi=>i<=l.length∧∀j<i,(!EQ (atM l j))=false) 0 (by simp) (by simp) λi hi=> ?_
 obtain⟨hi,he⟩:=hi;refine oI λQ1 hQ1=> ?_;by_cases h1:i<l.length
 ·have hm:=h16 _ (Jf h1);have ha:=Jw h16 h1;have hle:=z6u h16 h1;have hle':i*24<=l.length*24:=by omega
  have hle2:24<=l.length*24-i*24:=by omega
  cases h2:EQ (atM l i)
  ·have hR:=z3y (p:=λm=> !EQ m) h1 he (by rw[h2];rfl);simp(maxSteps:=999999) (disch:=first|omega|simp<;>omega|rfl) [fJ,oG,oF,pA,qc,kT,kF,dT,dF,h1,ha,hlen,hle',hle2,h297,Vo hm,M7,h2,xX,hQ1,hQ0,hR]
  simp(maxSteps:=999999) (disch:=first|omega|simp<;>omega|rfl) [fJ,oG,oF,pA,qc,kT,kF,dT,dF,h1,ha,hlen,hle',hle2,h297,Vo hm,M7,h2,xX,hQ1];refine⟨i+1,by omega,⟨by omega,λj hj=> ?_⟩,by omega⟩;rcases Nat.lt_or_eq_of_le (Nat.lt_succ_iff.1 hj) with h|h
  ·simpa using he j h
  rw[h];simpa using h2
 have hl':i=l.length:=by omega
 have hR:=z3B (p:=λm=> !EQ m) (l:=l) (λj hj=>he j (by omega));simp(maxSteps:=999999) (disch:=first|omega|simp<;>omega|rfl) [fJ,oG,oF,pA,kT,kF,dT,dF,h1,hQ1,hQ0,rE,hR]
def Qc:aW:=⟨Ow.pre,λds=>bo (!(KE (gNn (nth ds 0)) (gCs (nth ds 0))).all EQ)⟩
theorem MG{nl:Option Bool}{l:List sy}(h:z6 l)(h1:l.length<=1000000):Qc.pre [.sl .plain nl l.length (se l),.fn 297 [] [.ep [.fn 296 [] []]]]=True:=Sl h h1
theorem Gg(nl:Option Bool){l:List sy}(h:z6 l):Qc.post [.sl .plain nl l.length (se l),.fn 297 [] [.ep [.fn 296 [] []]]]=bo (!l.all EQ):=by show bo (!(KE l.length (se l)).all EQ)=_;rw[GE (sh h)]
theorem z2G(E:Env)(h313:E.G 313=Ow):∀ds,Qc.pre ds->ds.length=oT.n∧awp E oT.body (qH oT.res (Qc.post ds)) (fP oT.wr ds):=by rintro _ ⟨nl,l,h16,hl,rfl⟩;unfold z3Q;rw[Gg nl h16,List.all_eq_not_any_not,Bool.not_not,<-z3a];simp(maxSteps:=999999) (disch:=first|omega|simp<;>omega|rfl) [fJ,oG,oF,oT,h313,Sl h16 hl,Oq nl h16,GG,aU,bV]
theorem BZ(n lo hi:Int):inR n lo hi=true↔lo<=n∧n<=hi:=by simp[inR]
theorem Hg{x:pm}(h:okE x=true):0<=x.time∧x.time<=1099511627776∧0<=x.req∧x.req<=2147483647∧1<=x.mode∧x.mode<=5∧x.made.length<=4096∧x.gone.length<=4096:=by simp only[okE,BZ,Bool.and_eq_true,decide_eq_true_eq] at h;simp only[NE,Qw] at h;omega
theorem C8:dE.small:=by refine⟨⟨?_,?_,?_,?_,?_,?_,?_⟩,by simp[dE],by simp[dE]⟩<;>simp[dE,aO]
theorem Tw{t m:Int}(ht:aO t)(hm:aO m):(NU t m).small:=by refine⟨⟨ht,by simp[NU,aO],by simp[NU,aO],hm,C8.1,rfl,λ_ h=>(by cases h),λ_ h=>(by cases h)⟩,C8,by simp[NU],by simp[NU]⟩
set_option maxHeartbeats 8000000 in
theorem z3H(E:Env)(h295:E.G 295=z8p)(h298:E.G 298=Qc)(h294:E.G 294=z4G)(h299:E.G 299=Ih)(h293:E.G 293=z2M):∀ds,PQ.pre ds->ds.length=tW.n∧awp E tW.body (qH tW.res (PQ.post ds)) (fP tW.wr ds):=by
 rintro _ ⟨nc,nm,ng,x,hx,rfl⟩;rw[Gd hx];have hm16:=hx.1.2.2.2.2.2.2.1;have hd:=hx.1.2.2.2.2.2.1;have hml:=hx.2.2.1;have hgl:=hx.2.2.2;have hmp:=Tw hx.1.1 hx.1.2.2.2.1;have hl:=uD (nc:=nc) (nm:=nm) (ng:=ng) hd;have htk:=T3 (nc:=nc) (nm:=nm) (ng:=ng) hd;have h28:=Gy (nc:=nc) (nm:=nm) (ng:=ng) hd;have h29:=Gu (nc:=nc) (nm:=nm) (ng:=ng) hd;obtain⟨Z,hZ⟩:∃Z,Z=okE x:=⟨_,rfl⟩;rw[<-hZ];refine⟨rfl,?_⟩;simp only[tW];refine oI λQ9 hQ9=> ?_;refine yK λB hB=> ?_;simp(maxSteps:=999999) (disch:=first|omega|simp<;>omega|rfl) [fJ,oG,oF,hl];rw[hB];clear hB;rw[qg];refine oI λQ1 hQ1=> ?_;rw[qg];refine oI λQ2 hQ2=> ?_;rw[ji];refine o0 λT hT=> ?_;simp(maxSteps:=999999) (disch:=first|omega|simp<;>omega|rfl) [fJ,oG,oF,Dz,hl,h295,h28,h29];by_cases c1:inR x.time 0 1099511627776=true
 rotate_left
 ·refine oU true 8 31 (by simp[c1]) (by rw[hT];kernel_rfl) (by rw[hT];kernel_rfl) ?_;have hz:Z=false:=by
   cases hc:okE x
   ·rw[hZ,hc]
   have hq:=Hg hc
   exfalso
   first|omega|(have:=mt (BZ _ _ _).2 c1;omega)
  simp(maxSteps:=999999) (disch:=first|omega|simp<;>omega|rfl) [fJ,oG,oF,hQ2,hQ1,hQ9,kT,hz]
 rw[hT];clear hT;refine o0 λT hT=> ?_;simp(maxSteps:=999999) (disch:=first|omega|simp<;>omega|rfl) [fJ,oG,oF,DD,hl,h295,h28,h29,c1];by_cases c2:inR x.req 0 2147483647=true
 rotate_left
 ·refine oU true 14 31 (by simp[c2]) (by rw[hT];kernel_rfl) (by rw[hT];kernel_rfl) ?_;have hz:Z=false:=by
   cases hc:okE x
   ·rw[hZ,hc]
   have hq:=Hg hc
   exfalso
   first|omega|(have:=mt (BZ _ _ _).2 c2;omega)
  simp(maxSteps:=999999) (disch:=first|omega|simp<;>omega|rfl) [fJ,oG,oF,hQ2,hQ1,hQ9,kT,hz]
 rw[hT];clear hT;refine o0 λT hT=> ?_;simp(maxSteps:=999999) (disch:=first|omega|simp<;>omega|rfl) [fJ,oG,oF,DC,hl,h295,h28,h29,c1,c2];by_cases c3:inR x.mode 1 5=true
 rotate_left
 ·refine oU true 20 31 (by simp[c3]) (by rw[hT];kernel_rfl) (by rw[hT];kernel_rfl) ?_;have hz:Z=false:=by
   cases hc:okE x
   ·rw[hZ,hc]
   have hq:=Hg hc
   exfalso
   first|omega|(have:=mt (BZ _ _ _).2 c3;omega)
  simp(maxSteps:=999999) (disch:=first|omega|simp<;>omega|rfl) [fJ,oG,oF,hQ2,hQ1,hQ9,kT,hz]
 rw[hT];clear hT;refine o0 λT hT=> ?_;simp(maxSteps:=999999) (disch:=first|omega|simp<;>omega|rfl) [fJ,oG,oF,DA,hl,h295,h28,h29,c1,c2,c3];by_cases n4:4096<(x.made.length:Int)
 ·refine oU true 26 31 (by simp[n4]) (by rw[hT];kernel_rfl) (by rw[hT];kernel_rfl) ?_;have hz:Z=false:=by
   cases hc:okE x
   ·rw[hZ,hc]
   have hq:=Hg hc
   exfalso
   first|omega|(have:=mt (BZ _ _ _).2 n4;omega)
  simp(maxSteps:=999999) (disch:=first|omega|simp<;>omega|rfl) [fJ,oG,oF,hQ2,hQ1,hQ9,kT,hz]
 rw[hT];clear hT;by_cases n5:4096<(x.gone.length:Int)
 ·have hz:Z=false:=by
   cases hc:okE x
   ·rw[hZ,hc]
   have hq:=Hg hc
   exfalso
   first|omega|(have:=mt (BZ _ _ _).2 n5;omega)
  simp(maxSteps:=999999) (disch:=first|omega|simp<;>omega|rfl) [fJ,oG,oF,hQ2,hQ1,hQ9,kT,hz,zP,hl,h295,h28,h29,c1,c2,c3,n4,n5]
 simp(maxSteps:=999999) (disch:=first|omega|simp<;>omega|rfl) [fJ,oG,oF,zP,hl,h295,h28,h29,c1,c2,c3,n4,n5,hQ2,hQ1,kF];have q4:x.made.length<=4096:=by omega
 have q5:x.gone.length<=4096:=by omega
 cases c6:x.made.all EQ
 ·have hz:Z=false:=by simp only[hZ,okE,c6];simp
  simp(maxSteps:=999999) (disch:=first|omega|simp<;>omega|rfl) [fJ,oG,oF,vF,h298,MG hm16 hml,Gg nm hm16,GG,aU,bV,hl,c6,h28,kT,kF,hQ9,hz]
 have hzz:Z=if x.kind=0 then vH x (NU x.time x.mode) else inR x.kind 1 27&&(x.cmd.kind==x.kind)&&(!S5 x.kind||decide (x.cmd.data=[])):=by simp only[hZ,okE,c6,c3,q4,q5,Qw,NE,c1,c2,decide_true,Bool.true_and,Bool.and_true]
 by_cases hk:x.kind=0
 ·rw[if_pos hk] at hzz;simp(maxSteps:=999999) (disch:=first|omega|simp<;>omega|rfl) [fJ,oG,oF,vF,zE,h298,MG hm16 hml,Gg nm hm16,GG,aU,bV,hl,htk,c6,h28,kT,kF,hk,h294,h299,R5 hx hmp,GH hx hmp,hQ9,hzz]
 rw[if_neg hk] at hzz;have hk':(x.kind==0)=false:=by simpa using hk
 simp(maxSteps:=999999) (disch:=first|omega|simp<;>omega|rfl) [fJ,oG,oF,vF,zE,h298,MG hm16 hml,Gg nm hm16,GG,aU,bV,hl,c6,h28,kT,kF,hk,hk'];simp only[DH];rw[qg];refine oI λQ3 hQ3=> ?_;rw[ji];by_cases c7:inR x.kind 1 27=true
 rotate_left
 ·have hz:Z=false:=by rw[hzz];simp[c7]
  simp(maxSteps:=999999) (disch:=first|omega|simp<;>omega|rfl) [fJ,oG,oF,zU,vz,uh,hl,h295,c7,hQ3,hQ9,hz]
 refine o0 λT hT=> ?_;simp(maxSteps:=999999) (disch:=first|omega|simp<;>omega|rfl) [fJ,oG,oF,zU,hl,h295,c7];rw[hT];clear hT;by_cases c8:x.cmd.kind=x.kind
 rotate_left
 ·have hz:Z=false:=by rw[hzz];simp[c8]
  have c8':(x.cmd.kind==x.kind)=false:=by simpa using c8
  simp(maxSteps:=999999) (disch:=first|omega|simp<;>omega|rfl) [fJ,oG,oF,vz,uh,hl,c7,c8',hQ3,hQ9,hz]
 refine o0 λT hT=> ?_;simp(maxSteps:=999999) (disch:=first|omega|simp<;>omega|rfl) [fJ,oG,oF,vz,hl,h295,c7,c8];rw[hT];clear hT;cases c9:S5 x.kind
 ·have hz:Z=true:=by rw[hzz];simp[c7,c8,c9]
  simp(maxSteps:=999999) (disch:=first|omega|simp<;>omega|rfl) [fJ,oG,oF,uh,h293,hl,c7,c8,c9,hQ3,hQ9,hz]
 have hz:Z=decide (x.cmd.data=[]):=by rw[hzz];simp[c7,c8,c9]
 simp(maxSteps:=999999) (disch:=first|omega|simp<;>omega|rfl) [fJ,oG,oF,uh,h293,hl,c7,c8,c9,hQ3,hQ9,hz]
theorem z4E{l:List UInt8}(h:l.length=16):∃a b c d e f g i j k m n o p q r,l=[a,b,c,d,e,f,g,i,j,k,m,n,o,p,q,r]:=by
 match l,h with
 |[a,b,c,d,e,f,g,i,j,k,m,n,o,p,q,r],_=>exact⟨a,b,c,d,e,f,g,i,j,k,m,n,o,p,q,r,rfl⟩
theorem eqM{x y:sy}(hx:x.dig.length=16)(hy:y.dig.length=16):dk kM (uK x) (uK y)=decide (x=y):=by
 obtain⟨x1,x2,x3,x4,x5,x6,x7,x8,xd⟩:=x;obtain⟨y1,y2,y3,y4,y5,y6,y7,y8,yd⟩:=y;simp only at hx hy;obtain⟨a,b,c,d,e,f,g,i,j,k,m,n,o,p,q,r,rfl⟩:=z4E hx;obtain⟨a',b',c',d',e',f',g',i',j',k',m',n',o',p',q',r',rfl⟩:=z4E hy;have h8:∀u v:UInt8,((u.toNat:Int)==v.toNat)=(u==v):=λu v=>by
  rw[Bool.eq_iff_iff,beq_iff_eq,beq_iff_eq];constructor
  ·intro h;exact UInt8.toNat_inj.1 (by omega)
  rintro rfl;rfl
 rw[Bool.eq_iff_iff];simp[kM,dk,z0qa,uK,bys,h8,sy.mk.injEq]
theorem z7qa{x:sy}(hx:x.dig.length=16):cu kM (uK x)=True:=by
 obtain⟨x1,x2,x3,x4,x5,x6,x7,x8,xd⟩:=x;simp only at hx;obtain⟨a,b,c,d,e,f,g,i,j,k,m,n,o,p,q,r,rfl⟩:=z4E hx;refine eq_true ?_
 repeat' first|exact trivial|exact rfl|refine And.intro ?_ ?_
def J1:aW:=⟨λds=>∃(nl nl':Option Bool) (a b:List sy),z6 a∧z6 b∧a.length<=1000000∧ds=[.sl .plain nl a.length (se a),.sl .plain nl' b.length (se b)],
 λds=>bo (decide (KE (gNn (nth ds 0)) (gCs (nth ds 0))=KE (gNn (nth ds 1)) (gCs (nth ds 1))))⟩
theorem WW{nl nl':Option Bool}{a b:List sy}(h:z6 a)(h':z6 b)(hl:a.length<=1000000):J1.pre [.sl .plain nl a.length (se a),.sl .plain nl' b.length (se b)]=True:=eq_true ⟨nl,nl',a,b,h,h',hl,rfl⟩
theorem Lr(nl nl':Option Bool){a b:List sy}(h:z6 a)(h':z6 b):J1.post [.sl .plain nl a.length (se a),.sl .plain nl' b.length (se b)]=bo (decide (a=b)):=by show bo (decide (KE a.length (se a)=KE b.length (se b)))=_;rw[GE (sh h),GE (sh h')]
theorem z7L{a b:List sy}(h:a.length=b.length)(he:a.take a.length=b.take a.length):a=b:=by rw[List.take_length,h,List.take_length] at he;exact he
set_option maxHeartbeats 4000000 in
theorem z1i(E:Env):∀ds,J1.pre ds->ds.length=qi.n∧awp E qi.body (qH qi.res (J1.post ds)) (fP qi.wr ds):=by
 rintro _ ⟨nl,nl',a,b,ha,hb,hl,rfl⟩;rw[Lr nl nl' ha hb];by_cases h:a.length=b.length
 rotate_left
 ·have hz:decide (a=b)=false:=by simpa using λe:a=b=>h (by rw[e])
  have h':¬((a.length:Int)=b.length):=by omega
  simp(maxSteps:=999999) (disch:=first|omega|simp<;>omega|rfl) [fJ,oG,oF,qi,us,h',kT,kF,hz]
 have h':((a.length:Int)=b.length):=by omega
 have hla:=wW (sh ha);have hlb:=wW (sh hb);simp(maxSteps:=999999) (disch:=first|omega|simp<;>omega|rfl) [fJ,oG,oF,qi,us,h',kT,kF];refine oI λQ0 hQ0=> ?_;refine dH (λi:Nat=>⟨[(0,.sl .plain nl a.length (se a)),(1,.sl .plain nl' b.length (se b))],[(12,i64 a.length),(13,i64 i)],[]⟩)
  (λi=>a.length-i) (λi=>i<=a.length∧a.take i=b.take i) 0 (by simp[h']) (by simp) λi hi=> ?_
 obtain⟨hi,he⟩:=hi;refine oI λQ1 hQ1=> ?_;by_cases h1:i<a.length
 ·have h3:i<b.length:=by omega
  have e1:=Jw ha h1;have e2:=Jw hb h3;have l1:24<=a.length*24-i*24:=by omega
  have l2:24<=b.length*24-i*24:=by omega
  have l3:i*24<=a.length*24:=by omega
  have l4:i*24<=b.length*24:=by omega
  have d1:=(ha _ (Jf h1)).2.2.2.2.2.2.2;have d2:=(hb _ (Jf h3)).2.2.2.2.2.2.2;have hq:=eqM d1 d2;have ho1:=z7qa d1;have ho2:=z7qa d2;by_cases h2:atM a i=atM b i
  ·rw[<-h2] at e2 ho2 hq;simp only[decide_true] at hq;simp(maxSteps:=999999) (disch:=first|omega|simp<;>omega|rfl) [fJ,oG,oF,sF,ut,kT,kF,dT,dF,h1,h3,hla,hlb,e1,e2,l1,l2,l3,l4,hq,ho1,hQ1];refine⟨i+1,by omega,⟨by omega,?_⟩,by omega⟩;rw[List.take_succ_eq_append_getElem h1,List.take_succ_eq_append_getElem h3,he,<-Da h1,<-Da h3,h2]
  have hz:decide (a=b)=false:=by simpa using λe:a=b=>h2 (by rw[e])
  have hq':dk kM (uK (atM a i)) (uK (atM b i))=false:=by rw[hq];simpa using h2
  simp(maxSteps:=999999) (disch:=first|omega|simp<;>omega|rfl) [fJ,oG,oF,sF,ut,kT,kF,dT,dF,h1,h3,hla,hlb,e1,e2,l1,l2,l3,l4,hq',ho1,ho2,hQ1,hQ0,hz]
 have e:i=a.length:=by omega
 subst e;have hz:decide (a=b)=true:=by simpa using z7L h he
 simp(maxSteps:=999999) (disch:=first|omega|simp<;>omega|rfl) [fJ,oG,oF,sF,xZ,kT,kF,dT,dF,hQ1,hQ0,hz]
theorem z6b(a b:List Int):decide (a=b)=(a==b):=by rw[Bool.eq_iff_iff];simp
set_option maxHeartbeats 8000000 in
theorem X7(E:Env)(h133:E.G 133=BQ)(h301:E.G 301=J1)(h132:E.G 132=wF):∀ds,Ih.pre ds->ds.length=uR.n∧awp E uR.body (qH uR.res (Ih.post ds)) (fP uR.wr ds):=by
 rintro _ ⟨nc,nm,ng,nc',nm',ng',x,y,hx,hy,rfl⟩;rw[GH hx hy];have hd:=hx.1.2.2.2.2.2.1;have hd':=hy.1.2.2.2.2.2.1;have hl:=uD (nc:=nc) (nm:=nm) (ng:=ng) hd;have hl':=uD (nc:=nc') (nm:=nm') (ng:=ng') hd';have h28:=Gy (nc:=nc) (nm:=nm) (ng:=ng) hd;have h29:=Gu (nc:=nc) (nm:=nm) (ng:=ng) hd;have h28':=Gy (nc:=nc') (nm:=nm') (ng:=ng') hd';have h29':=Gu (nc:=nc') (nm:=nm') (ng:=ng') hd';have hg:=FC (nc:=nc) (nm:=nm) (ng:=ng) hd;have hg':=FC (nc:=nc') (nm:=nm') (ng:=ng') hd';have hm:=hx.1.2.2.2.2.2.2.1;have hm':=hy.1.2.2.2.2.2.2.1;have hgl:=hx.2.2.2;obtain⟨Z,hZ⟩:∃Z,Z=vH x y:=⟨_,rfl⟩;rw[<-hZ];have eqd:=vR hd hd';have p1:=GC (nl:=nc) (nl':=nc') hx.2.1 hy.2.1;have q1:=AB x.cmd y.cmd nc nc';have p2:=WW (nl:=nm) (nl':=nm') hm hm' hx.2.2.1;have q2:=Lr nm nm' hm hm';refine⟨rfl,?_⟩;simp only[uR];refine oI λQ9 hQ9=> ?_;refine yK λB hB=> ?_;simp(maxSteps:=999999) (disch:=first|omega|simp<;>omega|rfl) [fJ,oG,oF,hl,hl'];rw[hB];clear hB;rw[qg];refine oI λQ1 hQ1=> ?_;rw[ji];refine o0 λT hT=> ?_;simp(maxSteps:=999999) (disch:=first|omega|simp<;>omega|rfl) [fJ,oG,oF,DY,hl,hl',h28,h29,h28',h29',hg,hg',eqd,hd,hd',h133,h301,h132,p1,q1,p2,q2];by_cases c1:x.time=y.time
 rotate_left
 ·refine oU false 10 4 (by simp[c1]) (by rw[hT];kernel_rfl) (by rw[hT];kernel_rfl) ?_;have hz:Z=false:=by rw[hZ];simp[vH,c1]
  simp(maxSteps:=999999) (disch:=first|omega|simp<;>omega|rfl) [fJ,oG,oF,hQ1,hQ9,hz]
 rw[hT];clear hT;refine o0 λT hT=> ?_;simp(maxSteps:=999999) (disch:=first|omega|simp<;>omega|rfl) [fJ,oG,oF,Ee,hl,hl',h28,h29,h28',h29',hg,hg',eqd,hd,hd',h133,h301,h132,p1,q1,p2,q2,c1];by_cases c2:x.kind=y.kind
 rotate_left
 ·refine oU false 17 4 (by simp[c2]) (by rw[hT];kernel_rfl) (by rw[hT];kernel_rfl) ?_;have hz:Z=false:=by rw[hZ];simp[vH,c2]
  simp(maxSteps:=999999) (disch:=first|omega|simp<;>omega|rfl) [fJ,oG,oF,hQ1,hQ9,hz]
 rw[hT];clear hT;refine o0 λT hT=> ?_;simp(maxSteps:=999999) (disch:=first|omega|simp<;>omega|rfl) [fJ,oG,oF,Ey,hl,hl',h28,h29,h28',h29',hg,hg',eqd,hd,hd',h133,h301,h132,p1,q1,p2,q2,c1,c2];by_cases c3:x.req=y.req
 rotate_left
 ·refine oU false 24 4 (by simp[c3]) (by rw[hT];kernel_rfl) (by rw[hT];kernel_rfl) ?_;have hz:Z=false:=by rw[hZ];simp[vH,c3]
  simp(maxSteps:=999999) (disch:=first|omega|simp<;>omega|rfl) [fJ,oG,oF,hQ1,hQ9,hz]
 rw[hT];clear hT;refine o0 λT hT=> ?_;simp(maxSteps:=999999) (disch:=first|omega|simp<;>omega|rfl) [fJ,oG,oF,Ea,hl,hl',h28,h29,h28',h29',hg,hg',eqd,hd,hd',h133,h301,h132,p1,q1,p2,q2,c1,c2,c3];by_cases c4:x.mode=y.mode
 rotate_left
 ·refine oU false 31 4 (by simp[c4]) (by rw[hT];kernel_rfl) (by rw[hT];kernel_rfl) ?_;have hz:Z=false:=by rw[hZ];simp[vH,c4]
  simp(maxSteps:=999999) (disch:=first|omega|simp<;>omega|rfl) [fJ,oG,oF,hQ1,hQ9,hz]
 rw[hT];clear hT;refine o0 λT hT=> ?_;simp(maxSteps:=999999) (disch:=first|omega|simp<;>omega|rfl) [fJ,oG,oF,Em,hl,hl',h28,h29,h28',h29',hg,hg',eqd,hd,hd',h133,h301,h132,p1,q1,p2,q2,c1,c2,c3,c4];by_cases c5:x.dig=y.dig
 rotate_left
 ·refine oU false 38 4 (by simp[c5]) (by rw[hT];kernel_rfl) (by rw[hT];kernel_rfl) ?_;have hz:Z=false:=by rw[hZ];simp[vH,c5]
  simp(maxSteps:=999999) (disch:=first|omega|simp<;>omega|rfl) [fJ,oG,oF,hQ1,hQ9,hz]
 rw[hT];clear hT;refine o0 λT hT=> ?_;simp(maxSteps:=999999) (disch:=first|omega|simp<;>omega|rfl) [fJ,oG,oF,Et,hl,hl',h28,h29,h28',h29',hg,hg',eqd,hd,hd',h133,h301,h132,p1,q1,p2,q2,c1,c2,c3,c4,c5];by_cases c6:Gk x.cmd y.cmd=true
 rotate_left
 ·refine oU false 45 4 (by simp[c6]) (by rw[hT];kernel_rfl) (by rw[hT];kernel_rfl) ?_;have hz:Z=false:=by rw[hZ];simp[vH,c6]
  simp(maxSteps:=999999) (disch:=first|omega|simp<;>omega|rfl) [fJ,oG,oF,hQ1,hQ9,hz]
 rw[hT];clear hT;refine o0 λT hT=> ?_;simp(maxSteps:=999999) (disch:=first|omega|simp<;>omega|rfl) [fJ,oG,oF,Ew,hl,hl',h28,h29,h28',h29',hg,hg',eqd,hd,hd',h133,h301,h132,p1,q1,p2,q2,c1,c2,c3,c4,c5,c6];by_cases c7:x.made=y.made
 rotate_left
 ·refine oU false 52 4 (by simp[c7]) (by rw[hT];kernel_rfl) (by rw[hT];kernel_rfl) ?_;have hz:Z=false:=by rw[hZ];simp[vH,c7]
  simp(maxSteps:=999999) (disch:=first|omega|simp<;>omega|rfl) [fJ,oG,oF,hQ1,hQ9,hz]
 rw[hT];clear hT;have hz:Z=(x.gone==y.gone):=by rw[<-z6b,hZ];simp[vH,c1,c2,c3,c4,c5,c6,c7]
 simp(maxSteps:=999999) (disch:=first|omega|simp<;>omega|rfl) [fJ,oG,oF,En,hl,hl',h28,h29,h28',h29',hg,hg',eqd,hd,hd',h133,h301,h132,p1,q1,p2,q2,J5,c1,c2,c3,c4,c5,c6,c7,hQ1,hQ9,hz]
end Go.Abs