/- Lemmas. -/
import Derived.Test.YtiehmnjjlbndlaaGreatDoorZ
import Derived.Deep.DeepHandedRow
import Derived.Lib.LaidTab
import Derived.ChangeBears
import Derived.Carry
import Derived.OpenShut
import Derived.ChangeSame
import Derived.Test.YtiehmnjjlbndlaaGreatDoorY
noncomputable section
set_option linter.all false
namespace Go.Abs
theorem z8c{l:List UInt8}{j:Nat}(h:j<l.length):l.reverse.take (j+1)=l.reverse.take j++[at8 l (l.length-1-j)]:=by rw[List.take_succ_eq_append_getElem (by simp;omega),at8,List.getD,List.getElem?_eq_getElem (by omega)];simp[List.getElem_reverse]
set_option maxHeartbeats 4000000 in
theorem z5C(E:Env):∀ds,Kd.pre ds->ds.length=rb.n∧awp E rb.body (qH rb.res (Kd.post ds)) (fP rb.wr ds):=by
 rintro _ ⟨n,⟨hn0,hn1⟩,rfl⟩;simp(maxSteps:=999999) (disch:=first|omega|simp<;>omega|rfl) [fJ,oG,oF,rb];refine oI λQ0 hQ0=> ?_;have key:Q0 .normal ⟨[(0,i64 n)],[(3,i64 (mag n:Nat))],[]⟩:=by
  have hmag:(mag n:Int)=if n<0 then-1-n else n:=by unfold mag;split<;>omega
  have hm63:mag n<9223372036854775808:=by split at hmag<;>omega
  simp(maxSteps:=999999) (disch:=first|omega|simp<;>omega|rfl) [fJ,oG,oF,hQ0,zc];refine oI λQ1 hQ1=> ?_;refine dH (λp:Nat×List UInt8=>⟨[(0,i64 n)],[(3,i64 p.1),(4,.sl (.own 1) none p.2.length (bys p.2))],[]⟩) (λp=>p.1) (λp=>p.2++bW p.1=bW (mag n)∧p.1<9223372036854775808∧p.2.length<=8) (mag n,[]) rfl (by simp;omega) λp hp=> ?_;obtain⟨m,l⟩:=p;obtain⟨h1,h2,h3⟩:=hp;simp only at h1 h2 h3;refine oI λQ2 hQ2=> ?_;simp(maxSteps:=999999) (disch:=first|omega|simp<;>omega|rfl) [fJ,oG,oF,yV];rw[bq];refine⟨by simp,λh=> ?_,λh=> ?_⟩<;>simp at h
  ·have hl7:l.length<=7:=by
    have:=(bz 8 (mag n)).2 (by omega);rw[<-h1,bu (by omega)] at this;simp at this;omega
   have e1:(m:Int).tmod 256=((m% 256:Nat):Int):=by rw[Int.tmod_eq_emod_of_nonneg (by omega)];rfl
   have e2:(m:Int).tdiv 256=((m/256:Nat):Int):=by rw[Int.tdiv_eq_ediv_of_nonneg (by omega)];rfl
   have e3:UInt8.ofInt ((m:Int)% 256)=UInt8.ofNat m:=by apply UInt8.toNat_inj.1;rw[dv,UInt8.toNat_ofNat'];omega
   simp(maxSteps:=999999) (disch:=first|omega|simp<;>omega|rfl) [fJ,oG,oF,y9,e1,e2,e3];refine⟨by omega,?_⟩;simp[hQ2];refine⟨m/256,by omega,l++[UInt8.ofNat m],⟨?_,by omega,by simp;omega⟩,by omega,by simp,by simp⟩;rw[List.append_assoc,List.singleton_append,<-bu (by omega),h1]
  have e:m=0:=by omega
  subst e;rw[ue,List.append_nil] at h1;subst h1;generalize hD:bW (mag n)=D at*
  simp(maxSteps:=999999) (disch:=first|omega|simp<;>omega|rfl) [fJ,oG,oF,hQ2,hQ1,zh];refine oI λQ3 hQ3=> ?_;have key2:∀c,c=flp n (UInt8.ofNat (128+D.length))->Q3 .normal ⟨[(0,i64 n)],[(4,.sl (.own 1) none D.length (bys D)),(5,i64 D.length),(6,.sl (.own 1) none 1 (bys [c]))],[]⟩:=by
   intro c hc;have hfin:eU n=c::D.reverse.map (flp n):=by rw[eU,hD,hc]
   clear hc;simp(maxSteps:=999999) (disch:=first|omega|simp<;>omega|rfl) [fJ,oG,oF,hQ3,zA];refine oI λQ4 hQ4=> ?_;refine dH (λj:Nat=>⟨[(0,i64 n)],[(4,.sl (.own 1) none D.length (bys D)),(6,.sl (.own 1) none (1+j) (bys (c::(D.map (flp n)).reverse.take j))),(7,i64 ((D.length:Int)-1-j))],[]⟩)
    (λj=>D.length-j) (· <=D.length) 0 (by simp) (by simp) λj hj=> ?_
   refine oI λQ5 hQ5=> ?_;simp(maxSteps:=999999) (disch:=first|omega|simp<;>omega|rfl) [fJ,oG,oF,zB];rw[bq];refine⟨by simp,λh5=> ?_,λh5=> ?_⟩<;>simp at h5
   ·have hj':j<D.length:=by omega
    have e1:((D.length:Int)-1-(j:Int)).toNat=D.length-1-j:=by omega
    simp(maxSteps:=999999) (disch:=first|omega|simp<;>omega|rfl) [fJ,oG,oF,zt,e1,Lq];refine⟨by omega,by omega,?_⟩;refine oI λQ6 hQ6=> ?_;have key3:∀d,d=flp n (at8 D (D.length-1-j))->Q6 .normal ⟨[(0,i64 n)],[(4,.sl (.own 1) none D.length (bys D)),(6,.sl (.own 1) none (1+j) (bys (c::(D.map (flp n)).reverse.take j))),(7,i64 ((D.length:Int)-1-j)),(8,u8 d)],[]⟩:=by intro d hd;subst hd;simp(maxSteps:=999999) (disch:=first|omega|simp<;>omega|rfl) [fJ,oG,oF,hQ6,hQ5,yU];refine⟨by omega,j+1,by omega,by omega,⟨by omega,?_⟩,by omega⟩;rw[z8c (by simpa using hj')];simp[at8,List.getD,List.getElem?_eq_getElem (show D.length-1-j<D.length by omega)]
    rw[bq];refine⟨by simp,λh7=> ?_,λh7=> ?_⟩<;>simp at h7
    ·simp(maxSteps:=999999) (disch:=first|omega|simp<;>omega|rfl) [fJ,oG,oF];exact key3 _ (by rw[flp,if_pos h7])
    simp;exact key3 _ (by rw[flp,if_neg (by omega)])
   have e:j=D.length:=by omega
   subst e;simp[hQ5,hQ4,yZ,hfin,List.take_of_length_le];omega
  have hc8:(UInt8.ofNat (128+D.length)).toNat=128+D.length:=by rw[UInt8.toNat_ofNat'];omega
  rw[bq];refine⟨by simp,λh6=> ?_,λh6=> ?_⟩<;>simp at h6
  ·simp(maxSteps:=999999) (disch:=first|omega|simp<;>omega|rfl) [fJ,oG,oF];refine key2 _ ?_;rw[flp,if_neg (by omega)];apply UInt8.toNat_inj.1;rw[hc8,UInt8.toNat_add,dv,dv];omega
  simp(maxSteps:=999999) (disch:=first|omega|simp<;>omega|rfl) [fJ,oG,oF];refine key2 _ ?_;rw[flp,if_pos (by omega)];apply UInt8.toNat_inj.1;rw[UInt8.toNat_sub,hc8,dv];have:(255:UInt8).toNat=255:=rfl;omega
 have hmag:(mag n:Int)=if n<0 then-1-n else n:=by unfold mag;split<;>omega
 rw[bq];refine⟨by simp,λh=> ?_,λh=> ?_⟩<;>simp at h
 ·simp(maxSteps:=999999) (disch:=first|omega|simp<;>omega|rfl) [fJ,oG,oF];rw[if_pos h] at hmag;rw[hmag] at key;exact key
 simp;rw[if_neg (by omega)] at hmag;rw[hmag] at key;exact key
set_option maxRecDepth 100000
def ss:nH:=
 {n:=2,wr:=[],res:=[.cell 4 (some 16) 4],body:=YR [4] [.norm [4]] [Yz 4 4 16] (YR [4] [.norm [4]] [Ym 5 0,Ym 6 1,YK 7 21 5 6,Yk 8 28 7,Ys 16 4 4 8] .ret)}
def rg:nH:=
 {n:=2,wr:=[],res:=[.t 4],body:=Yr [] [Yv 4 1] (Yr [5] [Ym 7 0,YE 8 .u8 7,Yo 9 (.buildSl 1 1 [u8 0] [(0,1,.s 8)]),YM 5 9] (Yq (Yr [5,6] [Yc 6 0] (.block 0 (.loop (Yq (Yr [5,6,13] [Ym 10 6,Ym 11 1,Yn 12 11,Yb 13 .lss 10 12] (Yd 13 (Yy [5,6]) (YY [5]))) (Yq (.block 1 (Yu [5,6] [YM 16 5,Ym 17 1,Ym 18 6,Yi 19 1 17 18,Yj 20 19,Yk 21 29 20,Yo 22 (.append 1 1 false (some false) none 16 (.s 21)),YM 5 22])) (Yu [5,6] [Ym 14 6,YB 15 .add 14 1,Ym 6 15])))))) (Yr [4] [YM 23 5,YM 4 23] .ret)))}
def qP:nH:=
 {n:=1,wr:=[],res:=[.t 2],body:=YR [1] [.norm [1]] [Yx 1 1 16 0,Yo 2 (.mv false (.c (st [])))] (Yr [1,3] [Yv 3 1] (Yq (Yr [1,3,4] [Yc 4 0] (.block 0 (.loop (Yq (Yr [1,3,4,6] [Ym 5 4,YB 6 .lss 5 16] (Yd 6 (Yy [1,3,4]) (YY [3]))) (Yq (.block 1 (.region [1,3,4] [.norm [1]] [YM 9 3,Ym 10 4,Ya 11 16 1 1 10,Yl 12 1 11,Yo 13 (.buildSl 1 1 [u8 0] [(0,1,.s 12)]),YN 14 1 1 9 13,YM 3 14])) (Yu [1,3,4] [Ym 7 4,YB 8 .add 7 1,Ym 4 8])))))) (Yr [2] [YM 15 3,Yo 16 (.toStr none (.s 15)),Ym 2 16] .ret)))}
def qU:nH:=
 {n:=1,wr:=[],res:=[.t 2],body:=Yr [] [Yv 2 1] (Yr [3] [Yo 6 (.buildSl 1 0 [] []),Ym 7 0,Yo 8 (.append 1 1 false (some false) none 6 (.s 7)),YM 3 8] (Yr [3] [YM 9 3,Yo 10 (.buildSl 1 1 [u8 0] [(0,1,.c (u8 128))]),Yo 11 (.append 1 1 false (some false) none 9 (.s 10)),YM 3 11] (Yq (.block 0 (.loop (Yq (Yr [3,15] [Ym 12 3,Yn 13 12,YB 14 .rem 13 64,YB 15 .neq 14 56] (Yd 15 (Yy [3]) (YY [3]))) (.block 1 (Yu [3] [YM 16 3,Yo 17 (.buildSl 1 1 [u8 0] [(0,1,.c (u8 0))]),Yo 18 (.append 1 1 false (some false) none 16 (.s 17)),YM 3 18]))))) (Yr [3,4] [Ym 19 0,Yn 20 19,YE 21 .u64 20,Yo 22 (.bin .mul (.c (u64 8)) (.s 21)),Ym 4 22] (Yq (Yr [3,4,5] [Yc 5 0] (.block 2 (.loop (Yq (Yr [3,4,5,24] [Ym 23 5,YB 24 .lss 23 8] (Yd 24 (Yy [3,4,5]) (.ghost (.keep [3]) (.exit 2)))) (Yq (.block 3 (Yu [3,4,5] [YM 27 3,Ym 28 4,Ym 29 5,Yo 30 (.bin .mul (.c (i64 8)) (.s 29)),Yo 31 (.bin .sub (.c (i64 56)) (.s 30)),Yb 32 .shr 28 31,YE 33 .u8 32,Yo 34 (.buildSl 1 1 [u8 0] [(0,1,.s 33)]),Yo 35 (.append 1 1 false (some false) none 27 (.s 34)),YM 3 35])) (Yu [3,4,5] [Ym 25 5,YB 26 .add 25 1,Ym 5 26])))))) (Yr [2] [YM 36 3,YM 2 36] .ret))))))}
def re:nH:=
 {n:=1,wr:=[],res:=[.cell 2 (some 64) 2],body:=YR [2] [.norm [2]] [Yo 2 (.alloc 2 (bg (qG 64)))] (YR [2,3] [.norm [2,3]] [Yo 3 (.alloc 3 (bg (qG 64)))] (Yq (Yr [2,3,4] [Yc 4 0] (.block 0 (.loop (Yq (Yr [2,3,4,9] [Ym 8 4,YB 9 .lss 8 16] (Yd 9 (Yy [2,3,4]) (YY [2,3]))) (Yq (.block 1 (.region [2,3,4] [.norm [2,3]] [Ym 12 4,Ym 13 0,Ym 14 4,Yo 15 (.bin .mul (.c (i64 4)) (.s 14)),Yi 16 1 13 15,Yj 17 16,YE 18 .u32 17,YW 19 .shl 18 (u64 24),Ym 20 0,Ym 21 4,Yo 22 (.bin .mul (.c (i64 4)) (.s 21)),YB 23 .add 22 1,Yi 24 1 20 23,Yj 25 24,YE 26 .u32 25,YW 27 .shl 26 (u64 16),Yb 28 .or 19 27,Ym 29 0,Ym 30 4,Yo 31 (.bin .mul (.c (i64 4)) (.s 30)),YB 32 .add 31 2,Yi 33 1 29 32,Yj 34 33,YE 35 .u32 34,YW 36 .shl 35 (u64 8),Yb 37 .or 28 36,Ym 38 0,Ym 39 4,Yo 40 (.bin .mul (.c (i64 4)) (.s 39)),YB 41 .add 40 3,Yi 42 1 38 41,Yj 43 42,YE 44 .u32 43,Yb 45 .or 37 44,Ya 46 64 1 3 12,YS 3 46 45])) (Yu [2,3,4] [Ym 10 4,YB 11 .add 10 1,Ym 4 11])))))) (Yq (Yr [2,3,5] [Yc 5 16] (.block 2 (.loop (Yq (Yr [2,3,5,48] [Ym 47 5,YB 48 .lss 47 64] (Yd 48 (Yy [2,3,5]) (.ghost (.keep [2,3]) (.exit 2)))) (Yq (.block 3 (YR [2,3,5,6] [.norm [2,3]] [Ym 51 5,YB 52 .sub 51 15,Ya 53 64 1 3 52,Yl 54 3 53,YC 55 26 54 7,Ym 56 5,YB 57 .sub 56 15,Ya 58 64 1 3 57,Yl 59 3 58,YC 60 26 59 18,Yb 61 .xor 55 60,Ym 62 5,YB 63 .sub 62 15,Ya 64 64 1 3 63,Yl 65 3 64,YW 66 .shr 65 (u64 3),Yb 67 .xor 61 66,Ym 6 67] (YR [2,3,5,6,7] [.norm [2,3]] [Ym 68 5,YB 69 .sub 68 2,Ya 70 64 1 3 69,Yl 71 3 70,YC 72 26 71 17,Ym 73 5,YB 74 .sub 73 2,Ya 75 64 1 3 74,Yl 76 3 75,YC 77 26 76 19,Yb 78 .xor 72 77,Ym 79 5,YB 80 .sub 79 2,Ya 81 64 1 3 80,Yl 82 3 81,YW 83 .shr 82 (u64 10),Yb 84 .xor 78 83,Ym 7 84] (.region [2,3,5] [.norm [2,3]] [Ym 85 5,Ym 86 5,YB 87 .sub 86 16,Ya 88 64 1 3 87,Yl 89 3 88,Ym 90 6,Yb 91 .add 89 90,Ym 92 5,YB 93 .sub 92 7,Ya 94 64 1 3 93,Yl 95 3 94,Yb 96 .add 91 95,Ym 97 7,Yb 98 .add 96 97,Ya 99 64 1 3 85,YS 3 99 98])))) (Yu [2,3,5] [Ym 49 5,YB 50 .add 49 1,Ym 5 50])))))) (YR [2] [.norm [2,3]] [YL 100 64 3 3,Ys 64 2 2 100] .ret))))}
def rB:nH:=
 {n:=2,wr:=[],res:=[.t 4],body:=Yr [] [Yo 4 (.mv false (.c (u32 0)))] (Yr [4] [Ym 5 0,Ym 6 1,Yb 7 .shr 5 6,Ym 8 0,Ym 9 1,Yo 10 (.bin .sub (.c (i64 32)) (.s 9)),Yb 11 .shl 8 10,Yb 12 .or 7 11,Ym 4 12] .ret)}
def ri:nH:=
 {n:=1,wr:=[],res:=[.cell 2 (some 16) 2],body:=YR [2] [.norm [2]] [Yz 2 2 16] (YR [2,3] [.norm [2,3]] [Ym 6 0,Yk 7 15 6,Yz 3 3 32,Ys 32 3 3 7] (YR [2,3,4] [.norm [2,3,4]] [Yo 8 (.build (bys (bF 16)) []),Yz 4 4 16,Ys 16 4 4 8] (Yq (Yr [2,3,4,5] [Yc 5 0] (.block 0 (.loop (Yq (Yr [2,3,4,5,10] [Ym 9 5,YB 10 .lss 9 16] (Yd 10 (Yy [2,3,4,5]) (YY [2,4]))) (Yq (.block 1 (.region [2,3,4,5] [.norm [2,3,4]] [Ym 13 5,Ym 14 5,Ya 15 32 1 3 14,Yl 16 3 15,Ya 17 16 1 4 13,YS 4 17 16])) (Yu [2,3,4,5] [Ym 11 5,YB 12 .add 11 1,Ym 5 12])))))) (YR [2] [.norm [2,3,4]] [YL 18 16 4 4,Ys 16 2 2 18] .ret))))}
def qr:nH:=
 {n:=1,wr:=[],res:=[.t 2],body:=Yr [] [Yv 2 1] (Yr [2] [Ym 3 0,Yo 4 (.len true (.s 3)),Yk 5 30 4,Ym 6 0,Yo 7 (.toBytes (.s 6)),YN 8 1 1 5 7,YM 2 8] .ret)}
theorem z8H(E:Env):∀ds,L6.pre ds->ds.length=rB.n∧awp E rB.body (qH rB.res (L6.post ds)) (fP rB.wr ds):=by rintro _ ⟨x,n,h0,h1,rfl⟩;simp(maxSteps:=999999) (disch:=first|omega|simp<;>omega|rfl) [fJ,oG,oF,rB];refine⟨by omega,by omega,?_⟩;rw[dN,show((32:Int)-n).toNat=32-n.toNat by omega]
theorem TZ(E:Env):∀ds,yy.pre ds->ds.length=qP.n∧awp E qP.body (qH qP.res (yy.post ds)) (fP qP.wr ds):=by
 rintro _ ⟨b,hb,rfl⟩;simp(maxSteps:=999999) (disch:=first|omega|simp<;>omega|rfl) [fJ,oG,oF,qP,hb];refine oI λQ0 hQ0=> ?_;refine dH (λi:Nat=>⟨[(0,.agg (bys b))],[(1,.bp 1 0),(3,.sl (.own 1) none i (bys (b.take i))),(4,i64 i)],[(1,some (bys b))]⟩) (λi=>16-i) (· <=16) 0 rfl (by simp) λi hi=> ?_;refine oI λQ1 hQ1=> ?_;simp(maxSteps:=999999) (disch:=first|omega|simp<;>omega|rfl) [fJ,oG,oF];rw[bq];refine⟨by simp,λh=> ?_,λh=> ?_⟩<;>simp at h
 ·have hi':i<b.length:=by omega
  simp(maxSteps:=999999) (disch:=first|omega|simp<;>omega|rfl) [fJ,oG,oF,Lq]
  repeat' (first|omega|apply And.intro)
  rw[hQ1];simp;exact⟨i+1,by omega,by omega,⟨by omega,(z0Z hi').symm⟩,by omega⟩
 have e:i=16:=by omega
 subst e;simp[hQ1,hQ0,List.take_of_length_le,hb]
theorem z7b(E:Env)(h15:E.G 15=O5):∀ds,zZ.pre ds->ds.length=ri.n∧awp E ri.body (qH ri.res (zZ.post ds)) (fP ri.wr ds):=by
 rintro _ ⟨nl,b,hb,rfl⟩;have hs:=J4 b;simp(maxSteps:=999999) (disch:=first|omega|simp<;>omega|rfl) [fJ,oG,oF,ri,h15,z3g,pB];refine oI λQ0 hQ0=> ?_;refine dH (λi:Nat=>⟨[(0,.sl .plain nl b.length (bys b))],[(2,.bp 2 0),(3,.bp 3 0),(4,.bp 4 0),(5,i64 i)],
  [(2,some (bys (bF 16))),(3,some (bys (sha b))),(4,some (bys ((sha b).take i++bF (16-i))))]⟩) (λi=>16-i) (· <=16) 0 rfl (by simp) λi hi=> ?_
 refine oI λQ1 hQ1=> ?_;simp(maxSteps:=999999) (disch:=first|omega|simp<;>omega|rfl) [fJ,oG,oF];rw[bq];refine⟨by simp,λh=> ?_,λh=> ?_⟩<;>simp at h
 ·have hi':i<(sha b).length:=by omega
  have hz:(bF (16-i)).set 0 (at8 (sha b) i)=at8 (sha b) i::bF (16-(i+1)):=by rw[LY (by omega),show 16-(i+1)=16-1-i by omega];rfl
  simp(maxSteps:=999999) (disch:=first|omega|simp<;>omega|rfl) [fJ,oG,oF,Lq,G7,List.set_append_right]
  repeat' (first|omega|apply And.intro)
  simp only[hs,Nat.min_eq_left (show i<=32 by omega),Nat.sub_self,hz,hQ1];simp;refine⟨i+1,by omega,by omega,by omega,?_⟩;rw[z0Z hi'];simp
 have e:i=16:=by omega
 subst e;simp[hQ1,hQ0,hs,bF,pB,List.take_of_length_le]
theorem z0ka(E:Env)(h21:E.G 21=v7)(h28:E.G 28=zZ):∀ds,Kq.pre ds->ds.length=ss.n∧awp E ss.body (qH ss.res (Kq.post ds)) (fP ss.wr ds):=by
 rintro _ ⟨tag,nl,l,hl,rfl⟩;have h1:=vD (l:=l) (by omega);have h2:(mY tag l).length<1099511000000:=by simp only[mY,List.length_cons];omega
 simp(maxSteps:=999999) (disch:=first|omega|simp<;>omega|rfl) [fJ,oG,oF,ss,h21,h28,Eh,D1,pB,bh,List.take_take]
theorem TU(E:Env)(h30:E.G 30=Kd):∀ds,BY.pre ds->ds.length=qr.n∧awp E qr.body (qH qr.res (BY.post ds)) (fP qr.wr ds):=by rintro _ ⟨s,hs,rfl⟩;have hl:=rJ (n:=s.length) ⟨by omega,by omega⟩;simp(maxSteps:=999999) (disch:=first|omega|simp<;>omega|rfl) [fJ,oG,oF,qr,h30,GJ,mX];omega
theorem z2e(E:Env)(h29:E.G 29=BY):∀ds,v7.pre ds->ds.length=rg.n∧awp E rg.body (qH rg.res (v7.post ds)) (fP rg.wr ds):=by
 rintro _ ⟨tag,nl,l,hl,rfl⟩;have hn:=FY l;simp(maxSteps:=999999) (disch:=first|omega|simp<;>omega|rfl) [fJ,oG,oF,rg];refine oI λQ0 hQ0=> ?_;refine dH (λi:Nat=>⟨[(0,i64 tag),(1,.sl .plain nl l.length (sts l))],[(5,.sl (.own 1) (some false) (mY tag (l.take i)).length (bys (mY tag (l.take i)))),(6,i64 i)],[]⟩) (λi=>l.length-i) (· <=l.length) 0 rfl (by simp) λi hi=> ?_;refine oI λQ1 hQ1=> ?_;simp(maxSteps:=999999) (disch:=first|omega|simp<;>omega|rfl) [fJ,oG,oF];rw[bq];refine⟨by simp,λh=> ?_,λh=> ?_⟩<;>simp at h
 ·have hi':i<l.length:=by omega
  have h3:=JO hi';have h5:mY tag (l.take (i+1))=mY tag (l.take i)++mX (atS l i):=by rw[mY,mY,rz _ _ [] hi'];rfl
  have h6:(mY tag (l.take i)).length+(mX (atS l i)).length<=1099511627776:=by rw[<-List.length_append,<-h5,mY,List.length_cons];have:=vD (l:=l.take (i+1)) (by have:=Nv l (i+1);omega);have:=Nv l (i+1);omega
  simp(maxSteps:=999999) (disch:=first|omega|simp<;>omega|rfl) [fJ,oG,oF,z0p,h29,HJ];refine⟨hi',by omega,h6,?_⟩;simp[hQ1];refine⟨i+1,by omega,by omega,⟨?_,?_⟩,by omega⟩<;>rw[h5];simp
 have e:i=l.length:=by omega
 subst e;simp[hQ1,hQ0]
theorem ZH(x:UInt32):x^^^4294967295= ~~~x:=by apply UInt32.toBitVec_inj.1;exact BitVec.xor_allOnes
theorem ZK{l:List UInt32}(h:1<l.length):hdA (bg l).tail=u32 (bJ l 1):=by rw[<-List.drop_one,Jq,AH h]
def z7q(s v:List UInt32):Nat->List UInt32
 |0=>s
 |t+1=>(z7q s v t).set t (bJ (z7q s v t) t+bJ v t)
theorem Q8(s v:List UInt32):∀t,(z7q s v t).length=s.length
 |0=>rfl
 |t+1=>by simp[z7q,Q8 s v t]
theorem z71(s v:H8):z7q s.l v.l 8=(s.add v).l:=rfl
set_option maxHeartbeats 4000000 in
theorem z0w(E:Env)(hT1:E.T 1=bg kc)(h24:E.G 24=D2)(h25:E.G 25=Be)(h26:E.G 26=L6):∀ds,O5.pre ds->ds.length=rU.n∧awp E rU.body (qH rU.res (O5.post ds)) (fP rU.wr ds):=by
 rintro _ ⟨nl,b,hb,rfl⟩;obtain⟨hp1,hp2,hp3⟩:=HK (b:=b) (by omega);generalize hm:zw b=m at*
 have hkc:kc.length=64:=rfl;simp(maxSteps:=999999) (disch:=first|omega|simp<;>omega|rfl) [fJ,oG,oF,rU,h24,Tm,hm,oJ];refine oI λQ0 hQ0=> ?_;refine dH (λk:Nat=>⟨[(0,.sl .plain nl b.length (bys b))],[(2,.bp 2 0),(3,.bp 3 0),(4,.sl (.own 1) (some false) m.length (bys m)),(5,i64 (64*k:Nat))],
   [(2,some (bys (bF 32))),(3,some (bg (blk m iv k).l))]⟩)
  (λk=>m.length-64*k) (λk=>64*k<=m.length) 0 rfl (by simp) λk hk=> ?_
 generalize hs:blk m iv k=s at*
 refine oI λQ1 hQ1=> ?_;simp(maxSteps:=999999) (disch:=first|omega|simp<;>omega|rfl) [fJ,oG,oF,zg];rw[bq];refine⟨by simp,λh=> ?_,λh=> ?_⟩<;>simp at h
 ·have hb64:((m.drop (64*k)).take 64).length=64:=by simp;omega
  generalize hB:(m.drop (64*k)).take 64=B at*
  have hl:=sT B 64;have e1:(64*(k:Int)+64).toNat-64*k=64:=by omega
  have e2:(64*(k:Int)).toNat=64*k:=by omega
  simp(maxSteps:=999999) (disch:=first|omega|simp<;>omega|rfl) [fJ,oG,oF,ze,h25,UE,e1,e2,hB,hl,oJ];refine⟨by omega,?_⟩;refine oI λQ2 hQ2=> ?_;have hs8:s.l.take 8=s.l:=rfl;refine dH (λt:Nat=>⟨[(0,.sl .plain nl b.length (bys b))],[(2,.bp 2 0),(3,.bp 3 0),(4,.sl (.own 1) (some false) m.length (bys m)),(5,i64 (64*k:Nat)),(6,.bp 6 0),(7,.bp 7 0),(8,i64 t)],
    [(2,some (bys (bF 32))),(3,some (bg s.l)),(6,some (bg (qX B 64))),(7,some (bg (Kp (qX B 64) s t).l))]⟩)
   (λt=>64-t) (· <=64) 0 (by simp[hs8,Kp]) (by decide) λt ht=> ?_
  refine oI λQ3 hQ3=> ?_;simp(maxSteps:=999999) (disch:=first|omega|simp<;>omega|rfl) [fJ,oG,oF,zf];rw[bq];refine⟨by simp,λh2=> ?_,λh2=> ?_⟩<;>simp at h2
  ·generalize hr:Kp (qX B 64) s t=r at*
   have hrl:r.l.length=8:=rfl;simp(maxSteps:=2000000) (disch:=first|omega|simp<;>omega|rfl) [zd,fJ,hT1,AH,z2c,ZK,Ki,h26,RI,hl,hkc,hrl,oJ];have hn:[u32 (bJ r.l 7+(dN (bJ r.l 4) 6^^^dN (bJ r.l 4) 11^^^dN (bJ r.l 4) 25)+(bJ r.l 4&&&bJ r.l 5^^^(bJ r.l 4^^^4294967295)&&&bJ r.l 6)+bJ kc t+bJ (qX B 64) t+((dN (bJ r.l 0) 2^^^dN (bJ r.l 0) 13^^^dN (bJ r.l 0) 22)+(bJ r.l 0&&&bJ r.l 1^^^bJ r.l 0&&&bJ r.l 2^^^bJ r.l 1&&&bJ r.l 2))),
     u32 (bJ r.l 0),u32 (bJ r.l 1),u32 (bJ r.l 2),u32 (bJ r.l 3+(bJ r.l 7+(dN (bJ r.l 4) 6^^^dN (bJ r.l 4) 11^^^dN (bJ r.l 4) 25)+(bJ r.l 4&&&bJ r.l 5^^^(bJ r.l 4^^^4294967295)&&&bJ r.l 6)+bJ kc t+bJ (qX B 64) t)),u32 (bJ r.l 4),u32 (bJ r.l 5),u32 (bJ r.l 6)]
     =bg (Kp (qX B 64) s (t+1)).l:=by
    rw[ZH,Kp,hr];rfl
   rw[hn,hQ3]
   repeat' (first|omega|apply And.intro)
   simp;exact⟨t+1,by omega,by omega,by omega,rfl⟩
  have e:t=64:=by omega
  subst e;generalize hr:Kp (qX B 64) s 64=r at*
  simp(maxSteps:=999999) (disch:=first|omega|simp<;>omega|rfl) [fJ,oG,oF,hQ3,hQ2,zm];refine oI λQ4 hQ4=> ?_;clear hQ3 hQ2;refine dH (λt:Nat=>⟨[(0,.sl .plain nl b.length (bys b))],[(2,.bp 2 0),(3,.bp 3 0),(4,.sl (.own 1) (some false) m.length (bys m)),(5,i64 (64*k:Nat)),(7,.bp 7 0),(11,i64 t)],
    [(2,some (bys (bF 32))),(3,some (bg (z7q s.l r.l t))),(6,some (bg (qX B 64))),(7,some (bg r.l))]⟩)
   (λt=>8-t) (· <=8) 0 (by simp[z7q]) (by decide) λt ht=> ?_
  have hal:=Q8 s.l r.l t;have hsl:s.l.length=8:=rfl;have hrl:r.l.length=8:=rfl;refine oI λQ5 hQ5=> ?_;simp(maxSteps:=999999) (disch:=first|omega|simp<;>omega|rfl) [fJ,oG,oF,zo];rw[bq];refine⟨by simp,λh3=> ?_,λh3=> ?_⟩<;>simp at h3
  ·simp(maxSteps:=999999) (disch:=first|omega|simp<;>omega|rfl) [fJ,oG,oF,yW,AH,vJ]
   repeat' (first|omega|apply And.intro)
   simp[hQ5];exact⟨t+1,by omega,by omega,by omega,rfl⟩
  have e:t=8:=by omega
  subst e;simp(maxSteps:=999999) (disch:=first|omega|simp<;>omega|rfl) [fJ,oG,oF,hQ5,hQ4,hQ1];refine⟨k+1,by omega,by omega,by omega,?_⟩;rw[z71,blk,hs,hB,Ni,hr]
 have e:64*k=m.length:=by omega
 simp(maxSteps:=999999) (disch:=first|omega|simp<;>omega|rfl) [fJ,oG,oF,hQ1,hQ0,y0];refine oI λQ2 hQ2=> ?_;clear hQ1 hQ0;refine dH (λi:Nat=>⟨[(0,.sl .plain nl b.length (bys b))],[(2,.bp 2 0),(3,.bp 3 0),(12,.bp 12 0),(13,i64 i)],
   [(2,some (bys (bF 32))),(3,some (bg s.l)),(6,none),(7,none),(12,some (bys (SK s i++bF (32-i))))]⟩)
  (λi=>32-i) (· <=32) 0 rfl (by decide) λi hi=> ?_
 have ho:=cI s i;refine oI λQ3 hQ3=> ?_;simp(maxSteps:=999999) (disch:=first|omega|simp<;>omega|rfl) [fJ,oG,oF,yR];rw[bq];refine⟨by simp,λh2=> ?_,λh2=> ?_⟩<;>simp at h2
 ·have hi4:i/4<s.l.length:=by show i/4<8;omega
  have e4:(i:Int).tdiv 4=(i/4:Nat):=by rw[Int.tdiv_eq_ediv_of_nonneg (by omega)];rfl
  have e5:(i:Int).tmod 4=(i% 4:Nat):=by rw[Int.tmod_eq_emod_of_nonneg (by omega)];rfl
  have e4':((i:Int)/4).toNat=i/4:=by omega
  have e6:((24:Int)-8*((i:Int)% 4)).toNat=24-8*(i% 4):=by omega
  simp(maxSteps:=999999) (disch:=first|omega|simp<;>omega|rfl) [fJ,oG,oF,yS,e4,e5,e6,e4',AH,G7,IR,LY (show i<32 by omega)]
  repeat' (first|omega|apply And.intro)
  simp[hQ3];refine⟨i+1,by omega,by omega,by omega,?_⟩;rw[SK,show 32-(i+1)=31-i by omega];simp
 have e:i=32:=by omega
 subst e;have hk2:m.length/64=k:=by omega
 have hf:sha b=SK s 32:=by rw[TP hb,hm,hk2,hs]
 simp[hQ3,hQ2,yY,pB,ho,hf,bF,List.take_of_length_le]
theorem T8(E:Env):∀ds,D2.pre ds->ds.length=qU.n∧awp E qU.body (qH qU.res (D2.post ds)) (fP qU.wr ds):=by
 rintro _ ⟨nl,b,hb,rfl⟩;have hn:(UInt64.ofNat b.length).toNat=b.length:=by rw[UInt64.toNat_ofNat'];omega
 have ho:UInt64.ofInt (b.length:Int)=UInt64.ofNat b.length:=by apply UInt64.toNat_inj.1;rw[cd,UInt64.toNat_ofNat'];omega
 have hz:=Pk b.length;have hzo:=Ps b.length;simp(maxSteps:=999999) (disch:=first|omega|simp<;>omega|rfl) [fJ,oG,oF,qU];refine⟨by omega,by omega,?_⟩;refine oI λQ0 hQ0=> ?_;refine dH (λk:Nat=>⟨[(0,.sl .plain nl b.length (bys b))],[(3,.sl (.own 1) (some false) (b.length+1+k) (bys (b++128::bF k)))],[]⟩)
  (λk=>KC b.length-k) (· <=KC b.length) 0 rfl (by simp) λk hk=> ?_
 refine oI λQ1 hQ1=> ?_;simp(maxSteps:=999999) (disch:=first|omega|simp<;>omega|rfl) [fJ,oG,oF];have e64:((b.length:Int)+1+(k:Int)).tmod 64=((b.length+1+k)% 64:Nat):=by rw[Int.tmod_eq_emod_of_nonneg (by omega)];omega
 rw[bq];refine⟨by simp,λh=> ?_,λh=> ?_⟩<;>simp at h
 ·have hk':k<KC b.length:=by
   rcases Nat.lt_or_ge k (KC b.length) with h3|h3
   ·exact h3
   have:k=KC b.length:=by omega
   subst this;omega
  simp(maxSteps:=999999) (disch:=first|omega|simp<;>omega|rfl) [fJ,oG,oF,hQ1];refine⟨by omega,k+1,by omega,by omega,by omega,?_⟩;rw[<-Ko]
 have e:k=KC b.length:=by unfold KC at hk⊢;omega
 subst e;simp(maxSteps:=999999) (disch:=first|omega|simp<;>omega|rfl) [fJ,oG,oF,hQ1,hQ0];refine oI λQ2 hQ2=> ?_;refine dH (λi:Nat=>⟨[(0,.sl .plain nl b.length (bys b))],[(3,.sl (.own 1) (some false) (b.length+1+KC b.length+i) (bys (b++128::bF (KC b.length)++be8 (8*UInt64.ofNat b.length) i))),(4,u64 (8*UInt64.ofNat b.length)),(5,i64 i)],[]⟩)
  (λi=>8-i) (· <=8) 0 (by simp[be8,ho]) (by decide) λi hi=> ?_
 have hbe:=HX (8*UInt64.ofNat b.length) i;refine oI λQ3 hQ3=> ?_;simp(maxSteps:=999999) (disch:=first|omega|simp<;>omega|rfl) [fJ,oG,oF];rw[bq];refine⟨by simp,λh=> ?_,λh=> ?_⟩<;>simp at h
 ·have e7:((56:Int)-8*(i:Int)).toNat=56-8*i:=by omega
  simp(maxSteps:=999999) (disch:=first|omega|simp<;>omega|rfl) [fJ,oG,oF,e7];refine⟨by omega,by omega,?_⟩;rw[hQ3];simp;refine⟨i+1,by omega,by omega,⟨by omega,?_⟩,by omega⟩;rw[be8]
 have e:i=8:=by omega
 subst e;simp[hQ3,hQ2,zw,nQ,hn,HX];omega
theorem z5g(x y:UInt32)(n:Nat):eD (x|||y) n=eD x n|||eD y n:=by apply UInt32.toBitVec_inj.1;exact BitVec.shiftLeft_or_distrib x.toBitVec y.toBitVec n
theorem QG(x:UInt32)(m n:Nat):eD (eD x m) n=eD x (m+n):=by apply UInt32.toBitVec_inj.1;exact(BitVec.shiftLeft_add x.toBitVec m n).symm
theorem z2za(b:List UInt8)(t:Nat):ldw b t 4=eD (at8 b (4*t)).toUInt32 24|||eD (at8 b (4*t+1)).toUInt32 16|||eD (at8 b (4*t+2)).toUInt32 8|||(at8 b (4*t+3)).toUInt32:=by
 have h0:eD 0 8=0:=rfl;have h1:∀x:UInt32,0|||x=x:=λx=>by simp
 simp only[ldw,z5g,QG,h0,h1,Nat.add_zero]
theorem XS(E:Env)(h26:E.G 26=L6):∀ds,Be.pre ds->ds.length=re.n∧awp E re.body (qH re.res (Be.post ds)) (fP re.wr ds):=by
 rintro _ ⟨nl,b,hb,rfl⟩;simp(maxSteps:=999999) (disch:=first|omega|simp<;>omega|rfl) [fJ,oG,oF,re];refine oI λQ0 hQ0=> ?_;refine dH (λt:Nat=>⟨[(0,.sl .plain nl 64 (bys b))],[(2,.bp 2 0),(3,.bp 3 0),(4,i64 t)],[(2,some (bg (qG 64))),(3,some (bg (qX b t++qG (64-t))))]⟩)
  (λt=>16-t) (· <=16) 0 rfl (by decide) λt ht=> ?_
 have hl:=sT b t;refine oI λQ1 hQ1=> ?_;simp(maxSteps:=999999) (disch:=first|omega|simp<;>omega|rfl) [fJ,oG,oF];rw[bq];refine⟨by simp,λh=> ?_,λh=> ?_⟩<;>simp at h
 ·have h4:(4*(t:Int)).toNat=4*t:=by omega
  have h41:(4*(t:Int)+1).toNat=4*t+1:=by omega
  have h42:(4*(t:Int)+2).toNat=4*t+2:=by omega
  have h43:(4*(t:Int)+3).toNat=4*t+3:=by omega
  simp(maxSteps:=999999) (disch:=first|omega|simp<;>omega|rfl) [fJ,oG,oF,Lq,h4,h41,h42,h43,vJ,IR,EU (show t<64 by omega)]
  repeat' (first|omega|apply And.intro)
  simp[hQ1];refine⟨t+1,by omega,by omega,by omega,?_⟩;rw[qX,KA,if_pos (by omega),show 64-(t+1)=63-t by omega,z2za];simp
 have e:t=16:=by omega
 subst e;simp(maxSteps:=999999) (disch:=first|omega|simp<;>omega|rfl) [fJ,oG,oF,hQ1,hQ0];refine oI λQ2 hQ2=> ?_;refine dH (λt:Nat=>⟨[(0,.sl .plain nl 64 (bys b))],[(2,.bp 2 0),(3,.bp 3 0),(5,i64 t)],[(2,some (bg (qG 64))),(3,some (bg (qX b t++qG (64-t))))]⟩)
  (λt=>64-t) (λt=>16<=t∧t<=64) 16 rfl (by decide) λt ht=> ?_
 have hl:=sT b t;refine oI λQ3 hQ3=> ?_;simp(maxSteps:=999999) (disch:=first|omega|simp<;>omega|rfl) [fJ,oG,oF];rw[bq];refine⟨by simp,λh2=> ?_,λh2=> ?_⟩<;>simp at h2
 ·simp(maxSteps:=999999) (disch:=first|omega|simp<;>omega|rfl) [fJ,oG,oF,h26,RI,AH,vJ,Rx]
  repeat' (first|omega|apply And.intro)
  simp[hQ3];refine⟨t+1,by omega,by omega,by omega,?_⟩;rw[qX,KA,if_neg (by omega),show 64-(t+1)=63-t by omega,EU (by omega),show((t:Int)-16).toNat=t-16 by omega,show((t:Int)-15).toNat=t-15 by omega,show((t:Int)-7).toNat=t-7 by omega,show((t:Int)-2).toNat=t-2 by omega];simp[sg0,sg1]
 have e:t=64:=by omega
 subst e;simp(disch:=simp[hl]) [hQ3,hQ2,oJ,hl,List.take_of_length_le,qG]
theorem aw{P:Nat×Bool->Prop}{l m:List (Nat×Bool)}(h:l.all (λp=>m.contains p)=true)(hm:∀p∈m,P p):∀p∈l,P p:=λp hp=>by have:=List.all_eq_true.1 h p hp;exact hm p (by simpa using this)
def VBs(K:Cx):List (Nat×Bool)->Prop
 |[]=>True
 |p::l=>VB K p∧VBs K l
theorem U2{K:Cx}:∀{l:List (Nat×Bool)},VBs K l->∀p∈l,VB K p
 |[],_,_,h=>by cases h
 |q::l,hl,p,h=>by
  rcases List.mem_cons.1 h with rfl|h
  ·exact hl.1
  exact U2 hl.2 p h
theorem z2p{K:Cx}{a l:List (Nat×Bool)}(hc:a.all (λp=>l.contains p)=true)(h:VBs K l):∀p∈a,VB K p:=λp hp=>U2 h p (by simpa using List.all_eq_true.1 hc p hp)
theorem cU{P:Nat×Bool->Prop}{f:Nat}{b:Bool}{l m:List (Nat×Bool)}(h:l.all (λp=>p==(f,b)||m.contains p)=true)(hm:∀p∈m,P p):∀p∈l,p≠(f,b)->P p:=λp hp hn=>by
 have:=List.all_eq_true.1 h p hp;rw[Bool.or_eq_true] at this;rcases this with h1|h1
 ·exact absurd (by simpa using h1) hn
 exact hm p (by simpa using h1)
section
variable {K : Cx} {f : Nat} {fn : Func} {F : nH}
theorem fV{c:aW}(l:List (Nat×Bool))(hf:K.P.funcs[K.nu f]? =some fn)(hc:(pz K F fn&&(ae F.body).all (λp=>l.contains p)&&sg F.body)=true)(hv:VBs K l)(h:∀ds,c.pre ds->ds.length=F.n∧awp K.E F.body (qH F.res (c.post ds)) (fP F.wr ds)):oK K f c:=by simp only[Bool.and_eq_true] at hc;exact CY hf hc.1.1 (z2p hc.1.2 hv) h hc.2
end
inductive GT where
 |bool
 |int (k:IntKind)
 |str
 |sl (e:GT)
 |arr (n:Nat) (e:GT)
 |st (fs:List GT)
mutual
def GT.has:GT->List oH->Prop
 | .bool,cs=>∃b,cs=[.lit (.bool b)]
 | .int k,cs=>∃n,cs=[.lit (.int k n)]∧k.min<=n∧n<=k.max
 | .str,cs=>∃s:ByteArray,cs=[.lit (.string s)]∧s.size<=maxLen
 | .sl e,cs=>∃ess:List (List oH),(∀c∈ess,e.has c)∧cs=[.sl .plain none ess.length ess.flatten]∧ess.length<=maxLen
 | .arr n e,cs=>∃ess:List (List oH),ess.length=n∧(∀c∈ess,e.has c)∧cs=ess.flatten
 | .st fs,cs=>GT.hasL fs cs
def GT.hasL:List GT->List oH->Prop
 |[],cs=>cs=[]
 |f::fs,cs=>∃a b,cs=a++b∧f.has a∧GT.hasL fs b
end
mutual
def GT.flat:GT->Bool
 | .sl _=>false
 | .arr _ e=>e.flat
 | .st fs=>GT.flatL fs
 |_=>true
def GT.flatL:List GT->Bool
 |[]=>true
 |f::fs=>f.flat&&GT.flatL fs
end
mutual
def GT.fits(P:Program):GT->TypeId->Bool
 | .bool,t=>match P.underlying t with|some .bool=>true|_=>false
 | .int k,t=>match P.underlying t with|some (.int k')=>k==k'|_=>false
 | .str,t=>match P.underlying t with|some .string=>true|_=>false
 | .sl e,t=>match P.underlying t with|some (.slice t')=>e.fits P t'&&(P.cellsOf t' !=0)|_=>false
 | .arr n e,t=>match P.underlying t with|some (.array n' t')=>n==n'&&e.fits P t'|_=>false
 | .st fs,t=>match P.underlying t with|some (.struct F)=>GT.fitsL P fs (F.toList.map (·.type))|_=>false
def GT.fitsL(P:Program):List GT->List TypeId->Bool
 |[],[]=>true
 |f::fs,t::ts=>f.fits P t&&GT.fitsL P fs ts
 |_,_=>false
end
mutual
def wt:oH->Nat
 | .lit (.string s)=>s.size+1
 | .sl _ _ _ cs=>wtL cs+1
 | .agg cs=>wtL cs
 |_=>1
def wtL:List oH->Nat
 |[]=>0
 |c::cs=>wt c+wtL cs
end
theorem bT(a b:List oH):wtL (a++b)=wtL a+wtL b:=by
 induction a with
 |nil=>simp[wtL]
 |cons x a ih=>simp only[List.cons_append,wtL,ih];omega
structure nn {H:Type} (B:DataW H->Nat):Prop where
 lit:∀l,1<=B (.lit l)
 str:∀l,l.length+1<=B (.lit (.string l))
 nil:1<=B .nil
 slice:∀es sp,(es.map B).sum+1<=B (.slice es sp)
 agg:∀ps,(ps.map B).sum<=B (.agg ps)
section
variable {H : Type} {enc : TypeId × Value -> H} {K : Cx} {S : Nat -> Nat} {W : World} {B : DataW H -> Nat}
theorem ag.app{K:Con}{S:Nat->Nat}{w:World}:∀{ds ds':List oH} {vs vs':List Value},ag K S w ds vs->ag K S w ds' vs'->ag K S w (ds++ds') (vs++vs')
 |[],_,vs,_,h,h'=>by simp only[ag] at h;subst h;simpa using h'
 |c::cs,_,vs,_,h,h'=>by simp only[ag] at h;obtain⟨x,xs,rfl,h1,h2⟩:=h;simp only[List.cons_append,ag];exact⟨x,xs++_,rfl,h1,ag.app h2 h'⟩
def cg(w:World):Nat->Nat:=λb=>match w.heap[b]? with|some (.cells c _ _)=>c.size|_=>0
theorem TI{w:World}{b o:Nat}{x:Value}(h:w.cell? ⟨b,o,none⟩=some x):o<cg w b:=by
 unfold World.cell? at h;unfold cg;cases hb:w.heap[b]? with
 |none=>simp[hb] at h
 |some q=>
  cases q with
  |cells c e fr=>simp[hb] at h;exact(Array.getElem?_eq_some_iff.1 h).1
  |_=>simp[hb] at h
theorem Tq{b off sz:Nat}{cs:List (List Value)}{as:List (List oH)}(hl:as.length=cs.length)(hsz:∀(i:Nat) c,cs[i]? =some c->c.length=sz)
  (hc:∀(i:Nat) c,cs[i]? =some c->∀j,j<sz->W.cell? ⟨b,off+i*sz+j,none⟩=c[j]?) (hr:∀(i:Nat) a c,as[i]? =some a->cs[i]? =some c->ag K.toCon (cg W) W a c):
  am K.toCon (cg W) W as.flatten b off:=by
 induction as generalizing cs off with
 |nil=>simp[am]
 |cons a as ih=>
  cases cs with
  |nil=>simp at hl
  |cons c cs=>
   have h0:=hr 0 a c rfl rfl;have hlen:=h0.len;have hcs:=hsz 0 c rfl;have hrest:=ih (off:=off+sz) (cs:=cs) (by simpa using hl) (λi c hi=>hsz (i+1) c (by simpa using hi)) (λi c hi j hj=>by
    have:=hc (i+1) c (by simpa using hi) j hj;rw[Nat.add_mul,Nat.one_mul] at this;rw[<-this];congr 2;omega) (λi a c hi hi'=>hr (i+1) a c (by simpa using hi) (by simpa using hi'))
   rw[List.flatten_cons];refine am.mk λi d hd=> ?_;rcases Nat.lt_or_ge i a.length with h|h
   ·rw[List.getElem?_append_left h] at hd;obtain⟨v,hv,hp⟩:=h0.get i d hd;have hcell:=hc 0 c rfl i (by omega);rw[Nat.zero_mul,Nat.add_zero,hv] at hcell;exact⟨TI hcell,v,hcell,hp⟩
   rw[List.getElem?_append_right h] at hd;have:=hrest.get _ d hd;rw[show off+sz+(i-a.length)=off+i by omega] at this;exact this
theorem aT{α β:Type}{R:α->β->Prop}:∀(l:List α),(∀x∈l,∃y,R x y)->∃r:List β,r.length=l.length∧∀(i:Nat) x y,l[i]? =some x->r[i]? =some y->R x y
 |[],_=>⟨[],rfl,λi x y h=>by simp at h⟩
 |x::l,h=>by
  obtain⟨y,hy⟩:=h x (by simp);obtain⟨r,h1,h2⟩:=aT l λz hz=>h z (by simp[hz]);refine⟨y::r,by simp[h1],λi a b ha hb=> ?_⟩;cases i with
  |zero=>simp at ha hb;subst ha;subst hb;exact hy
  |succ i=>exact h2 i a b (by simpa using ha) (by simpa using hb)
theorem dG{α β:Type}{f:α->Nat}{g:β->Nat}:∀{l:List α} {r:List β},l.length=r.length->(∀(i:Nat) a b,l[i]? =some a->r[i]? =some b->f a<=g b)->(l.map f).sum<=(r.map g).sum
 |[],[],_,_=>by simp
 |[],_::_,h,_=>by simp at h
 |_::_,[],h,_=>by simp at h
 |x::l,y::r,h,hi=>by have h1:=hi 0 x y rfl rfl;have h2:=dG (l:=l) (r:=r) (by simpa using h) λi a b ha hb=>hi (i+1) a b (by simpa using ha) (by simpa using hb);simp only[List.map_cons,List.sum_cons];omega
theorem bH(l:List (List oH)):wtL l.flatten=(l.map wtL).sum:=by
 induction l with
 |nil=>simp[wtL]
 |cons x l ih=>simp[bT,ih]
theorem dM{sp:Nat->Bool}{fuel:Nat}{e:GT}{t:TypeId}(sz:Nat)
  (one:∀(cs:List Value) d p,DataW.trod enc K.P W 0 sp true fuel t cs=some (d,p)->∃as,e.has as∧ag K.toCon (cg W) W as cs∧wtL as<=B d)
  {css:List (List Value)} {xs:List (DataW H×List MemPlace)} (hlen:xs.length=css.length) (hx:∀(i:Nat) c,css[i]? =some c->DataW.trod enc K.P W 0 sp true fuel t c=xs[i]?):
  ∃ess:List (List oH),ess.length=css.length∧(∀c∈ess,e.has c)∧(∀(i:Nat) a c,ess[i]? =some a->css[i]? =some c->ag K.toCon (cg W) W a c)∧wtL ess.flatten<=((xs.map (·.1)).map B).sum:=by
 obtain⟨ess,h1,h2⟩:=aT (R:=λ(i:Nat) (as:List oH)=>∃c x,css[i]? =some c∧xs[i]? =some x∧e.has as∧ag K.toCon (cg W) W as c∧wtL as<=B x.1) (List.range css.length) λi hi=>by
  have hi:i<css.length:=by simpa using hi
  have hc:css[i]? =some css[i]:=List.getElem?_eq_getElem hi;have hxi:xs[i]? =some xs[i]:=List.getElem?_eq_getElem (by omega);have:=hx i _ hc;rw[hxi] at this;obtain⟨as,k1,k2,k3⟩:=one _ xs[i].1 xs[i].2 this;exact⟨as,_,_,hc,hxi,k1,k2,k3⟩
 have hl1:ess.length=css.length:=by simpa using h1
 have g:∀(i:Nat) a,ess[i]? =some a->∃c x,css[i]? =some c∧xs[i]? =some x∧e.has a∧ag K.toCon (cg W) W a c∧wtL a<=B x.1:=λi a ha=>by have hi:i<ess.length:=(List.getElem?_eq_some_iff.1 ha).1;exact h2 i i a (List.getElem?_range (by omega)) ha
 refine⟨ess,hl1,λa ha=> ?_,λi a c ha hc=> ?_,?_⟩
 ·obtain⟨i,hi,rfl⟩:=List.getElem_of_mem ha;obtain⟨_,_,_,_,k,_⟩:=g i _ (List.getElem?_eq_getElem hi);exact k
 ·obtain⟨c',_,k1,_,_,k2,_⟩:=g i a ha;rw[hc] at k1;cases k1;exact k2
 rw[bH,List.map_map];refine dG (by omega) λi a x ha hxi=> ?_;obtain⟨_,x',_,k1,_,_,k2⟩:=g i a ha;rw[hxi] at k1;cases k1;exact k2
mutual
theorem read(hB:nn B)(hl:laidOutB K.P=true){sp:Nat->Bool}:∀(gt:GT) (fuel:Nat) (t:TypeId) (cs:List Value) (d:DataW H) (p:List MemPlace),DataW.trod enc K.P W 0 sp true fuel t cs=some (d,p)->gt.fits K.P t=true->t<K.P.types.size->
  (∀b,sp b=true)->∃as,gt.has as∧ag K.toCon (cg W) W as cs∧wtL as<=B d
 |gt,0,t,cs,d,p,h,_,_,_=>by simp[DataW.trod] at h
 | .bool,fuel+1,t,cs,d,p,h,hf,ht,hs=>by
  simp only[GT.fits] at hf;split at hf
  ·rename_i hu;simp only[DataW.trod,hu] at h;split at h<;>simp_all;obtain⟨rfl,rfl⟩:=h;rename_i b;exact⟨[.lit (.bool b)],⟨b,rfl⟩,by simp[ag,ap],by have:=hB.lit (.bool b);simpa[wtL,wt] using this⟩
  cases hf
 | .int k,fuel+1,t,cs,d,p,h,hf,ht,hs=>by
  simp only[GT.fits] at hf;split at hf
  ·rename_i k' hu;simp only[beq_iff_eq] at hf;subst hf;obtain⟨n,rfl,hx,hw⟩:=DataW.trod_int hu h;cases hx;simp only[Lit.wf,Bool.and_eq_true,decide_eq_true_eq] at hw;exact⟨_,⟨n,rfl,hw.1,hw.2⟩,by simp[ag,ap],by have:=hB.lit (.int k n);simpa[wtL,wt] using this⟩
  cases hf
 | .str,fuel+1,t,cs,d,p,h,hf,ht,hs=>by
  simp only[GT.fits] at hf;split at hf
  ·rename_i hu;obtain⟨s,rfl,hx,hw⟩:=DataW.trod_string hu h;cases hx;refine⟨[.lit (.string s)],⟨s,rfl,hw⟩,by simp only[ag,ap];exact⟨_,_,rfl,rfl,rfl⟩,?_⟩;have:=hB.str s.data.toList;have e:s.data.toList.length=s.size:=Array.length_toList;simp only[wtL,wt];omega
  cases hf
 | .sl e,fuel+1,t,cs,d,p,h,hf,ht,hs=>by
  simp only[GT.fits] at hf;split at hf
  ·rename_i t' hu;simp only[Bool.and_eq_true,bne_iff_ne,ne_eq] at hf;obtain⟨hf,hz⟩:=hf;have ht':=kid_slice hl ht hu;simp only[DataW.trod,hu] at h;have nilc:cs=[.slice none 0 0]->d= .nil->∃as,(GT.sl e).has as∧ag K.toCon (cg W) W as cs∧wtL as<=B d:=by
    rintro rfl rfl;refine⟨[.sl .plain none 0 []],⟨[],by simp,rfl,Nat.zero_le _⟩,by simp only[ag,ap];exact⟨_,_,rfl,.inr ⟨none,by simp⟩,rfl⟩,?_⟩;have:=hB.nil;simpa[wtL,wt] using this
   split at h
   all_goals (try (simp only[reduceCtorEq,Option.some.injEq,TypeDesc.slice.injEq,Prod.mk.injEq] at h))
   all_goals (try (rename_i hh;simp only[reduceCtorEq,Option.some.injEq,TypeDesc.slice.injEq] at hh))
   ·exact nilc rfl h.1.symm
   ·subst hh;rename_i a len cap;split at h
    ·rename_i hb;obtain⟨hb0,hlc,hcap⟩:=hb;simp only[Option.bind_eq_some_iff,Option.map_eq_some_iff] at h;obtain⟨elems,hel,rest,hrest,hd⟩:=h;cases hd;have hlen:=mapM_some_length hel;cases hsp:a.spot with
     |some s0=>
      rw[if_pos (hs _)] at hrest;have bad:∀x,((W.cells? 0 (a.add (0*K.P.cellsOf t')) (K.P.cellsOf t')).bind (DataW.trod enc K.P W 0 sp true fuel t'))=some x->False:=λx hx=>by
       obtain⟨c,h2,_⟩:=Option.bind_eq_some_iff.1 hx;obtain⟨_,h3,h4⟩:=World.cells?_some h2;have:=h4 0 (by omega);have h5:W.cell? ((a.add (0*K.P.cellsOf t')).add 0)=none:=by
        unfold World.cell?;split
        ·rw[if_pos (by simp[Addr.add,hsp,Nat.zero_mul])]
        rfl
       rw[h5] at this;have h6:=List.getElem?_eq_none_iff.1 this.symm;omega
      have hc0:cap=0:=by
       rcases Nat.eq_zero_or_pos cap with h0|h0
       ·exact h0
       exfalso
       rcases Nat.eq_zero_or_pos len with hl0|hl0
       ·have h1:=mapM_some_get hrest 0 0 (List.getElem?_range (by omega));cases hr:rest[0]? with
        |none=>have:=mapM_some_length hrest;have h7:=List.getElem?_eq_none_iff.1 hr;simp at this;omega
        |some x=>rw[hr] at h1;exact bad x (by simpa[hl0] using h1)
       have h1:=mapM_some_get hel 0 0 (List.getElem?_range (by omega));cases hr:elems[0]? with
       |none=>have h7:=List.getElem?_eq_none_iff.1 hr;simp at hlen;omega
       |some x=>rw[hr] at h1;exact bad x h1
      have hl0:len=0:=by omega
      subst hc0 hl0;refine⟨[.sl .plain none 0 []],⟨[],by simp,rfl,Nat.zero_le _⟩,by simp only[ag,ap];exact⟨_,_,rfl,.inr ⟨some a,by simp⟩,rfl⟩,?_⟩;have:=hB.slice (elems.map (·.1)) (rest.map (·.1));simp only[wtL,wt];omega
     |none=>
     obtain⟨b,off,spot⟩:=a;simp only at hsp;subst hsp;have hget:∀i,i<len->∃c,W.cells? 0 ((⟨b,off,none⟩:Addr).add (i*K.P.cellsOf t')) (K.P.cellsOf t')=some c∧DataW.trod enc K.P W 0 sp true fuel t' c=elems[i]? :=λi hi=>by
      have h1:=mapM_some_get hel i i (by simp[hi]);have hi':i<elems.length:=by rw[hlen];simpa using hi
      rw[List.getElem?_eq_getElem hi'] at h1;obtain⟨c,h2,h3⟩:=Option.bind_eq_some_iff.1 h1;exact⟨c,h2,by rw[h3,List.getElem?_eq_getElem hi']⟩
     obtain⟨css,hcl,hcs⟩:=aT (R:=λ(i:Nat) (c:List Value)=>W.cells? 0 ((⟨b,off,none⟩:Addr).add (i*K.P.cellsOf t')) (K.P.cellsOf t')=some c∧DataW.trod enc K.P W 0 sp true fuel t' c=elems[i]?) (List.range len) (λi hi=>hget i (by simpa using hi));simp only[List.length_range] at hcl hlen;have hcs':∀(i:Nat) c,css[i]? =some c->W.cells? 0 ((⟨b,off,none⟩:Addr).add (i*K.P.cellsOf t')) (K.P.cellsOf t')=some c∧DataW.trod enc K.P W 0 sp true fuel t' c=elems[i]? :=λi c hc=>by have hi:i<css.length:=(List.getElem?_eq_some_iff.1 hc).1;exact hcs i i c (List.getElem?_range (by omega)) hc
     obtain⟨ess,k1,k2,k3,k4⟩:=dM (K.P.cellsOf t') (λc d p hh=>read hB hl e fuel t' c d p hh hf ht' hs) (css:=css) (xs:=elems) (by omega) (λi c hc=>(hcs' i c hc).2);refine⟨_,⟨ess,k2,rfl,by omega⟩,?_,?_⟩
     ·simp only[ag,ap];refine⟨_,_,rfl,.inl ⟨b,off,cap,by rw[k1,hcl],by omega,?_,by simp,by simp⟩,rfl⟩;refine Tq (cs:=css) (sz:=K.P.cellsOf t') k1 (λi c hc=>(World.cells?_some (hcs' i c hc).1).2.1) (λi c hc j hj=> ?_) k3;have:=(World.cells?_some (hcs' i c hc).1).2.2 j hj;rw[<-this,Addr.add_mid,Addr.add_mid]
     have:=hB.slice (elems.map (·.1)) (rest.map (·.1));simp only[wtL,wt];omega
    cases h
   all_goals simp_all
  cases hf
 | .arr n e,fuel+1,t,cs,d,p,h,hf,ht,hs=>by
  simp only[GT.fits] at hf;split at hf
  ·rename_i n' t' hu;simp only[Bool.and_eq_true,beq_iff_eq] at hf;obtain⟨rfl,hf⟩:=hf;obtain⟨ht',hct⟩:=kid_array hl ht hu;simp only[DataW.trod,hu] at h;split at h
   ·rename_i hlen;simp only[Option.map_eq_some_iff] at h;obtain⟨xs,hm,hd⟩:=h;cases hd;have hxl:=mapM_some_length hm;simp only[List.length_range] at hxl
    let css:=(List.range n).map λi=>(cs.drop (i*K.P.cellsOf t')).take (K.P.cellsOf t')
    have hcss:∀(i:Nat) c,css[i]? =some c->i<n∧c=(cs.drop (i*K.P.cellsOf t')).take (K.P.cellsOf t'):=λi c hc=>by simp only[css,List.getElem?_map,Option.map_eq_some_iff] at hc;obtain⟨j,hj,rfl⟩:=hc;obtain⟨h1,h2⟩:=List.getElem?_eq_some_iff.1 hj;simp only[List.length_range] at h1;simp only[List.getElem_range] at h2;subst h2;exact⟨h1,rfl⟩
    obtain⟨ess,h1,h2⟩:=aT (R:=λ(i:Nat) (as:List oH)=>∃c x,css[i]? =some c∧xs[i]? =some x∧e.has as∧ag K.toCon (cg W) W as c∧wtL as<=B x.1) (List.range n) λi hi=>by
     have hi:i<n:=by simpa using hi
     have hc:css[i]? =some ((cs.drop (i*K.P.cellsOf t')).take (K.P.cellsOf t')):=by simp[css,hi]
     have hxi:xs[i]? =some xs[i]:=List.getElem?_eq_getElem (by omega);have:=mapM_some_get hm i i (by simp[hi]);rw[hxi] at this;obtain⟨as,k1,k2,k3⟩:=read hB hl e fuel t' _ xs[i].1 xs[i].2 this hf ht' hs;exact⟨as,_,_,hc,hxi,k1,k2,k3⟩
    have hl1:ess.length=n:=by simpa using h1
    have g:∀(i:Nat) a,ess[i]? =some a->∃c x,css[i]? =some c∧xs[i]? =some x∧e.has a∧ag K.toCon (cg W) W a c∧wtL a<=B x.1:=λi a ha=>by have hi:i<ess.length:=(List.getElem?_eq_some_iff.1 ha).1;exact h2 i i a (List.getElem?_range (by omega)) ha
    refine⟨_,⟨ess,hl1,λa ha=> ?_,rfl⟩,?_,?_⟩
    ·obtain⟨i,hi,rfl⟩:=List.getElem_of_mem ha;obtain⟨_,_,_,_,k,_⟩:=g i _ (List.getElem?_eq_getElem hi);exact k
    ·have flat:∀(k:Nat) (l:List (List oH)),(∀(i:Nat) a,l[i]? =some a->ag K.toCon (cg W) W a ((cs.drop ((k+i)*K.P.cellsOf t')).take (K.P.cellsOf t')))->k+l.length=n->ag K.toCon (cg W) W l.flatten (cs.drop (k*K.P.cellsOf t')):=by
      intro k l;induction l generalizing k with
      |nil=>intro _ hk;simp only[List.length_nil,Nat.add_zero] at hk;rw[hk,List.drop_of_length_le (by omega)];simp[ag]
      |cons a l ih=>
       intro hi hk;have h0:=hi 0 a rfl;have hr:=ih (k+1) (λi a ha=>by
        have:=hi (i+1) a (by simpa using ha);rwa[show k+(i+1)=k+1+i by omega] at this) (by simp at hk;omega)
       rw[Nat.add_zero] at h0;have e1:cs.drop (k*K.P.cellsOf t')=(cs.drop (k*K.P.cellsOf t')).take (K.P.cellsOf t')++cs.drop ((k+1)*K.P.cellsOf t'):=by rw[Nat.add_mul,Nat.one_mul,<-List.drop_drop,List.take_append_drop]
       rw[e1,List.flatten_cons];exact ag.app h0 hr
     have:=flat 0 ess (λi a ha=>by
      obtain⟨c,_,k1,_,_,k2,_⟩:=g i a ha;rw[Nat.zero_add];rwa[(hcss i c k1).2] at k2) (by omega)
     simpa using this
    rw[bH];refine Nat.le_trans ?_ (hB.agg (xs.map (·.1)));rw[List.map_map];refine dG (by omega) λi a x ha hxi=> ?_;obtain⟨_,x',_,k1,_,_,k2⟩:=g i a ha;rw[hxi] at k1;cases k1;exact k2
   cases h
  cases hf
 | .st fs,fuel+1,t,cs,d,p,h,hf,ht,hs=>by
  simp only[GT.fits] at hf;split at hf
  ·rename_i F hu;obtain⟨h1,h2,h3⟩:=kid_struct hl ht hu;simp only[DataW.trod,hu] at h;split at h
   ·rename_i hlen;simp only[Option.map_eq_some_iff] at h;obtain⟨xs,hm,hd⟩:=h;cases hd;obtain⟨as,k1,k2,k3⟩:=kJ hB hl fs F.toList 0 fuel cs xs hm hf h1 (λj f hj=>by rw[h3 j f hj,Nat.zero_add]) hs (by rw[Nat.zero_add,<-h2,hlen];exact Nat.le_refl _);refine⟨as,k1,?_,Nat.le_trans k3 (hB.agg _)⟩;rw[List.drop_zero,List.take_of_length_le (by omega)] at k2;exact k2
   cases h
  cases hf
theorem kJ(hB:nn B)(hl:laidOutB K.P=true){sp:Nat->Bool}:∀(gs:List GT) (F:List Field) (off:Nat) (fuel:Nat) (cs:List Value) (xs:List (DataW H×List MemPlace)),
  F.mapM (λf=>DataW.trod enc K.P W 0 sp true fuel f.type ((cs.drop f.offset).take (K.P.cellsOf f.type)))=some xs->GT.fitsL K.P gs (F.map (·.type))=true->(∀f∈F,f.type<K.P.types.size)->
  (∀(j:Nat) f,F[j]? =some f->f.offset=off+((F.take j).map λf=>K.P.cellsOf f.type).sum)->(∀b,sp b=true)->off+(F.map λf=>K.P.cellsOf f.type).sum<=cs.length->
  ∃as,GT.hasL gs as∧ag K.toCon (cg W) W as ((cs.drop off).take (F.map λf=>K.P.cellsOf f.type).sum)∧wtL as<=((xs.map (·.1)).map B).sum
 |[],[],off,fuel,cs,xs,hm,hf,ht,ho,hs,hc=>by simp at hm;subst hm;exact⟨[],by simp[GT.hasL],by simp[ag],by simp[wtL]⟩
 |[],_::_,off,fuel,cs,xs,hm,hf,ht,ho,hs,hc=>by simp[GT.fitsL] at hf
 |_::_,[],off,fuel,cs,xs,hm,hf,ht,ho,hs,hc=>by simp[GT.fitsL] at hf
 |g::gs,f::F,off,fuel,cs,xs,hm,hf,ht,ho,hs,hc=>by
  simp only[List.map_cons,GT.fitsL,Bool.and_eq_true] at hf;simp only[List.mapM_cons,Option.bind_eq_bind,Option.bind_eq_some_iff,Option.pure_def,Option.some.injEq] at hm;obtain⟨x,hx,xs',hm',rfl⟩:=hm;have h0:=ho 0 f rfl;simp only[List.take_zero,List.map_nil,List.sum_nil,Nat.add_zero] at h0;simp only[List.map_cons,List.sum_cons] at hc;obtain⟨as,k1,k2,k3⟩:=read hB hl g fuel f.type _ x.1 x.2 hx hf.1 (ht f (by simp)) hs;obtain⟨bs,m1,m2,m3⟩:=kJ hB hl gs F (off+K.P.cellsOf f.type) fuel cs xs' hm' hf.2 (λf' hf'=>ht f' (by simp[hf'])) (λj f' hj=>by
   have:=ho (j+1) f' (by simpa using hj);simp only[List.take_succ_cons,List.map_cons,List.sum_cons] at this;omega) hs (by omega)
  refine⟨as++bs,⟨as,bs,rfl,k1,m1⟩,?_,?_⟩
  ·rw[h0] at k2;rw[List.map_cons,List.sum_cons,List.take_add,List.drop_drop];exact ag.app k2 m2
  rw[bT];simp only[List.map_cons,List.sum_cons];omega
end
end
open Go.RowKit Go.WideShapes Go.ChangeShapes
def GT.row:GT->Bool
 | .arr _ _=>true
 | .st _=>true
 |_=>false
def GT.top(g:GT)(cs:List oH):oH:=if g.row then .agg cs else cs.headD .undef
def z1S:List GT->List oH->Prop
 |[],as=>as=[]
 |g::gs,as=>∃cs r,as=g.top cs::r∧g.has cs∧z1S gs r
section
variable {H : Type} {enc : TypeId × Value -> H} {K : Cx} {W : World} {B : DataW H -> Nat}
theorem z6c(hB:nn B)(hl:laidOutB K.P=true){sp:Nat->Bool}{base:Nat}{g:GT}{t:TypeId}{v:Value}{d:DataW H}{p:List MemPlace}(hok:Value.okWide K.P W .any base t v)
  (h:DataW.Trod enc K.P W 0 sp true t v d p) (hf:g.fits K.P t=true) (ht:t<K.P.types.size) (hs:∀b,sp b=true):∃cs,g.has cs∧ap K.toCon (cg W) W (g.top cs) v∧wtL cs<=B d:=by
 obtain⟨fuel,h⟩:=h;have row:g.row=true->(∃a,v= .agg a)->∃cs,g.has cs∧ap K.toCon (cg W) W (g.top cs) v∧wtL cs<=B d:=by rintro hr ⟨a,rfl⟩;obtain⟨cs,k1,k2,k3⟩:=read hB hl g fuel t _ d p h hf ht hs;refine⟨cs,k1,?_,k3⟩;rw[GT.top,if_pos hr];simp only[ap];exact⟨a,rfl,k2⟩
 have one:g.row=false->v.cells= #[v]->∃cs,g.has cs∧ap K.toCon (cg W) W (g.top cs) v∧wtL cs<=B d:=by
  intro hr hc;rw[hc] at h;obtain⟨cs,k1,k2,k3⟩:=read hB hl g fuel t _ d p h hf ht hs;refine⟨cs,k1,?_,k3⟩;rw[GT.top,if_neg (by simp[hr])];cases cs with
  |nil=>simp[ag] at k2
  |cons c r=>simp only[ag] at k2;obtain⟨x,xs,e,k4,_⟩:=k2;simp only[List.cons.injEq] at e;rw[e.1];exact k4
 cases g with
 |bool=>
  simp only[GT.fits] at hf;split at hf
  ·rename_i hu;obtain⟨b,rfl⟩:=okWide_bool hu hok;exact one rfl rfl
  cases hf
 |int k=>
  simp only[GT.fits] at hf;split at hf
  ·rename_i k' hu;obtain⟨b,rfl⟩:=okWide_int hu hok;exact one rfl rfl
  cases hf
 |str=>
  simp only[GT.fits] at hf;split at hf
  ·rename_i hu;obtain⟨b,rfl⟩:=okWide_string hu hok;exact one rfl rfl
  cases hf
 |sl e=>
  simp only[GT.fits] at hf;split at hf
  ·rename_i t' hu;obtain⟨a,n,c,rfl⟩:=okWide_slice hu hok;exact one rfl rfl
  cases hf
 |arr n e=>
  simp only[GT.fits] at hf;split at hf
  ·rename_i n' t' hu;have hok':=hok;simp only[Value.okWide,hu] at hok';obtain⟨cs,rfl,_,h3⟩:=hok';exact row rfl ⟨cs,rfl⟩
  cases hf
 |st fs=>
  simp only[GT.fits] at hf;split at hf
  ·rename_i F hu;have hok':=hok;simp only[Value.okWide,hu] at hok';obtain⟨cs,rfl,_,h3⟩:=hok';exact row rfl ⟨cs,rfl⟩
  cases hf
theorem O4(hB:nn B)(hl:laidOutB K.P=true){sp:Nat->Bool}{base:Nat}:∀(gs:List GT) (ts:List TypeId) (vs:List Value) (ds:List (DataW H)) (p:List MemPlace),
  DataW.TrodAll enc K.P W 0 sp true ts vs ds p->(∀(j:Nat) t v,ts[j]? =some t->vs[j]? =some v->Value.okWide K.P W .any base t v)->GT.fitsL K.P gs ts=true->(∀t∈ts,t<K.P.types.size)->(∀b,sp b=true)->
  ∃as,z1S gs as∧ag K.toCon (cg W) W as vs∧wtL as<=(ds.map B).sum
 |[],[],vs,ds,p,h,_,_,_,_=>by obtain⟨rfl,rfl,rfl⟩:=trodAll_nil h;exact⟨[],by simp[z1S],by simp[ag],by simp[wtL]⟩
 |[],_::_,_,_,_,_,_,hf,_,_=>by simp[GT.fitsL] at hf
 |_::_,[],_,_,_,_,_,hf,_,_=>by simp[GT.fitsL] at hf
 |g::gs,t::ts,vs,ds,p,h,hok,hf,ht,hs=>by
  obtain⟨v,vs',d,ds',p',q,rfl,rfl,rfl,h0,hr⟩:=trodAll_cons h;simp only[GT.fitsL,Bool.and_eq_true] at hf;obtain⟨cs,k1,k2,k3⟩:=z6c hB hl (hok 0 t v rfl rfl) h0 hf.1 (ht t (by simp)) hs;obtain⟨as,m1,m2,m3⟩:=O4 hB hl gs ts vs' ds' q hr (λj t v h1 h2=>hok (j+1) t v (by simpa using h1) (by simpa using h2)) hf.2 (λt h=>ht t (by simp[h])) hs;refine⟨g.top cs::as,⟨cs,as,rfl,k1,m1⟩,?_,?_⟩
  ·simp only[ag];exact⟨v,vs',rfl,k2,m2⟩
  have:wt (g.top cs)<=wtL cs:=by
   unfold GT.top;split
   ·simp[wt]
   cases cs with
   |nil=>have:ap K.toCon (cg W) W (g.top []) v:=k2;cases g<;>simp_all [GT.has,GT.row]
   |cons c r=>simp[wtL]
  simp only[wtL,List.map_cons,List.sum_cons];omega
end
theorem L7{H:Type}{enc:TypeId×Value->H}{P:Program}{f:Func}{s:ChangeSpec}{apart fresh handsOn again:Bool}{W W':World}{args:Array Value}{v:Value}{ds gs:List (DataW H)}{before pa pv:List MemPlace}
  (hW:DataW.Whole enc P f.params.toList s.vars apart W args.toList ds gs before)
  (hres:∀(b:Nat) (sp:Nat->Bool) (hd:Bool),DataW.TrodAll enc P W' b sp hd f.resultTypes.toList (v.resultList f.resultTypes.size) (s.fn H (ds++gs)).results [])
  (hargs:∀sp:Nat->Bool,(∀p∈before,sp p.block=true)->DataW.TrodAll enc P W' 0 sp true f.params.toList args.toList (s.fn H (ds++gs)).args pa)
  (hvars:∀sp:Nat->Bool,(∀p∈before,sp p.block=true)->DataW.TrodVars enc P W' sp s.vars (s.fn H (ds++gs)).vars pv)
  (hps:before=pa++pv) (hb:Below W.heap.size W W')
  (hok:∀(j:Nat) (t:TypeId) (r:Value),f.resultTypes[j]? =some t->(v.resultList f.resultTypes.size)[j]? =some r->Value.okWide P W' .any 0 t r):
  s.post enc P f apart fresh handsOn again W args v W':=by
 have hlt:∀p∈before,p.block<W.heap.size:=λp hp=>hW.lt p hp;have hold:∀p∈before,(λb=>decide (b<W.heap.size)) p.block=true:=λp hp=>by simpa using hlt p hp
 refine⟨ds,gs,before,[],pa,pv,hW,hres _ _ _,hargs _ hold,hvars _ hold,World.keptBut_mono (λp hp=>⟨hp,?_⟩) (hb.frame (· ∈before)),λ_=> ?_⟩
 ·rw[hps,List.mem_append] at hp;exact Or.inr hp
 obtain⟨_,_,_,_,_,hz,hn⟩:=hW;refine⟨hok,_,_,([]++pa)++pv,⟨[]++pa,pv,trodAll_append (hargs _ (λ_ _=>rfl)) (hres _ _ _),hvars _ (λ_ _=>rfl),rfl,?_,?_⟩,?_⟩
 ·intro b off hp;have hin:MemPlace.cell b off∈before:=by rw[hps];simpa using hp
  rw[hb.frozen (hlt _ hin)];exact hz b off hin
 ·intro ha;have:=hn ha;rw[hps] at this;simpa using this
 intro p hp _;rw[hps];simpa using hp
section
variable {H : Type} {enc : TypeId × Value -> H} {K : Cx} {B : DataW H -> Nat}
theorem N7(hl:laidOutB K.P=true){W W':World}(hb:Below W.heap.size W W'){sp:Nat->Bool}:∀(ts:List TypeId) (vs:List Value) (ds:List (DataW H)) (p:List MemPlace),
  (∀t∈ts,K.P.readableRec t=true∧t<K.P.types.size)->DataW.TrodAll enc K.P W 0 (λ_=>true) true ts vs ds p->(∀x∈p,x.block<W.heap.size∧sp x.block=true)->DataW.TrodAll enc K.P W' 0 sp true ts vs ds p
 |[],vs,ds,p,_,h,_=>by obtain⟨rfl,rfl,rfl⟩:=trodAll_nil h;exact trodAll_mk0
 |t::ts,vs,ds,p,ht,h,hp=>by obtain⟨v,vs',d,ds',p',q,rfl,rfl,rfl,h0,hr⟩:=trodAll_cons h;obtain⟨h1,h2⟩:=ht t (by simp);refine trodAll_cons_mk (WideElems.Trod_stays hl h1 h2 h0 (λx hx=>hb.same (hp x (by simp[hx])).1) (λx hx=>(hp x (by simp[hx])).2)) (N7 hl hb ts vs' ds' q (λt h=>ht t (by simp[h])) hr (λx hx=>hp x (by simp[hx])))
theorem z1c{f:Nat}{fn:Func}{s:ChangeSpec}{c:aW}{gts:List GT}{tb:TypeId}{W:World}{base:Nat}{args:Array Value}{ds gs:List (DataW H)}{before:List MemPlace}
  (hv:oK K f c) (hl:laidOutB K.P=true) (hB:nn B)
  (hts:(fn.params.toList.all λt=>K.P.readableRec t&&decide (t<K.P.types.size))=true) (hfit:GT.fitsL K.P gts fn.params.toList=true) (hres:fn.resultTypes= #[tb]) (htb:K.P.underlying tb=some .bool)
  (hvars:s.vars=[]) (hspec:∀ds:List (DataW H),ds.length=fn.params.size->s.fn H ds={results:=[.lit (.bool true)],args:=ds})
  (hgl:∀n∈K.N.gs,am K.toCon (cg W) W (K.E.T n) (K.N.gnum n) 0)
  (hpre:∀as,z1S gts as->wtL as<=(ds.map B).sum->c.pre as) (hpost:∀as,c.pre as->c.post as= .lit (.bool true))
  (hval:∀(j:Nat) t v,fn.params[j]? =some t->args[j]? =some v->Value.okWide K.P W .any base t v)
  (hW:DataW.Whole enc K.P fn.params.toList s.vars false W args.toList ds gs before):
  Calls K.P (K.nu f) args W λe W'=>∃v,e= .returned v∧s.post enc K.P fn false true false false W args v W':=by
 have hW':=hW;obtain⟨p,q,hA,hV,rfl,hfz,hnd⟩:=hW;rw[hvars] at hV;have hgq:gs=[]∧q=[]:=by
  cases gs with
  |nil=>simp only[DataW.TrodVars] at hV;exact⟨rfl,hV⟩
  |cons _ _=>simp only[DataW.TrodVars] at hV
 obtain⟨rfl,rfl⟩:=hgq;have hts':∀t∈fn.params.toList,K.P.readableRec t=true∧t<K.P.types.size:=λt ht=>by have:=List.all_eq_true.1 hts t ht;simpa[Bool.and_eq_true] using this
 obtain⟨as,k1,k2,k3⟩:=O4 hB hl (base:=base) gts fn.params.toList args.toList ds p hA (λj t v h1 h2=>hval j t v (by simpa using h1) (by simpa using h2)) hfit (λt ht=>(hts' t ht).2) (λ_=>rfl);have hp:=hpre as k1 k3;have hc:=hv.2 (cg W) W as args.toList hgl k2 hp;rw[Array.toArray_toList] at hc;refine hc.mono λe W' ⟨v,g',he,hfr,hrep,_,_⟩=>⟨v,he,?_⟩;rw[hpost as hp] at hrep;simp only[Rep] at hrep;subst hrep;have hb:Below W.heap.size W W':=⟨hfr.os,hfr.tape,hfr.output,hfr.size,λk hk=>hfr.block k hk (λh=>h)⟩;have hdl:∀(ts:List TypeId) (vs:List Value) (ds:List (DataW H)) (p:List MemPlace),DataW.TrodAll enc K.P W 0 (λ_=>true) true ts vs ds p->ds.length=ts.length:=by
  intro ts;induction ts with
  |nil=>intro vs ds p h;obtain⟨_,rfl,_⟩:=trodAll_nil h;rfl
  |cons t ts ih=>intro vs ds p h;obtain⟨v,vs',d,ds',p',q,rfl,rfl,rfl,h0,hr⟩:=trodAll_cons h;simp[ih _ _ _ hr]
 have hlen:(ds++[]).length=fn.params.size:=by rw[List.append_nil,hdl _ _ _ _ hA];simp
 have hsp:=hspec (ds++[]) hlen;refine L7 hW' (pa:=p) (pv:=[]) (λb sp hd=> ?_) (λsp hs=> ?_) (λsp hs=> ?_) rfl hb ?_
 ·rw[hsp,hres];exact trodAll_mk1 (shut_bool htb true)
 ·rw[hsp,List.append_nil];exact N7 hl hb _ _ _ _ hts' hA (λx hx=>⟨hW'.lt x (by simpa using hx),hs x (by simpa using hx)⟩)
 ·rw[hsp,hvars];simp[DataW.TrodVars]
 rw[hres];intro j t r h1 h2;have:=ok_one (f:=fn) (v:= .bool true) hres rfl (okWide_bool_mk (P:=K.P) (W':=W') htb true);exact this j t r (by rw[hres];exact h1) (by rw[hres];exact h2)
end
end Go.Abs
namespace Go.Abs
theorem z2ga{cs:List oH}(h:(GT.int .u8).has cs):∃x:UInt8,cs=[u8 x]:=by
 simp only[GT.has] at h;obtain⟨n,rfl,h0,h1⟩:=h;have e0:IntKind.u8.min=0:=rfl;have e1:IntKind.u8.max=255:=rfl;rw[e0] at h0;rw[e1] at h1;refine⟨UInt8.ofInt n,?_⟩;have:((UInt8.ofInt n).toNat:Int)=n:=by rw[dv];omega
 rw[u8,this]
theorem s9{cs:List oH}(h:(GT.int .i64).has cs):∃x:Int,-9223372036854775808<=x∧x<=9223372036854775807∧cs=[i64 x]:=by simp only[GT.has] at h;obtain⟨n,rfl,h0,h1⟩:=h;exact⟨n,h0,h1,rfl⟩
theorem z4b{cs:List oH}(h:GT.bool.has cs):∃x:Bool,cs=[bo x]:=by simp only[GT.has] at h;exact h
theorem z5I{cs:List oH}(h:GT.str.has cs):∃l:List UInt8,cs=[st l]:=by simp only[GT.has] at h;obtain⟨s,rfl,_⟩:=h;exact⟨s.data.toList,by simp[st]⟩
theorem Wt{α:Type}{P:List oH->Prop}{f:α->List oH}(h:∀cs,P cs->∃x,cs=f x):∀(ess:List (List oH)),(∀c∈ess,P c)->∃l:List α,ess=l.map f
 |[],_=>⟨[],rfl⟩
 |c::ess,hc=>by obtain⟨x,hx⟩:=h c (hc c (by simp));obtain⟨l,hl⟩:=Wt h ess λd hd=>hc d (by simp[hd]);exact⟨x::l,by rw[List.map_cons,<-hx,<-hl]⟩
theorem RL{α:Type}(f:α->oH):∀l:List α,(l.map λx=>[f x]).flatten=l.map f
 |[]=>rfl
 |x::l=>by simp[RL f l]
theorem MO{n:Nat}{cs:List oH}(h:(GT.arr n (.int .u8)).has cs):∃l:List UInt8,l.length=n∧cs=bys l:=by simp only[GT.has] at h;obtain⟨ess,hn,h1,rfl⟩:=h;obtain⟨l,rfl⟩:=Wt (P:=(GT.int .u8).has) (f:=λx=>[u8 x]) (λcs h=>z2ga h) ess (by simpa only[GT.has] using h1);exact⟨l,by simpa using hn,by rw[RL];rfl⟩
@[simp] theorem nZ(g:GT)(c:oH)(h:g.row=false):g.top [c]=c:=by simp[GT.top,h]
theorem IP{K:Cx}{W:World}{name:String}{k:IntKind}{zs:List Int}{g:Nat}{cs:List oH}(h:Lib.TabIs K.P W name k zs)(hg:K.P.globalNamed name=some g)(hc:cs=zs.map λz=> .lit (.int k z)):
  am K.toCon (cg W) W cs g 0:=by
 subst hc;refine am.mk λi d hd=> ?_;rw[List.getElem?_map,Option.map_eq_some_iff] at hd;obtain⟨z,hz,rfl⟩:=hd;have:=World.var?_cell hg h i;rw[Nat.zero_add];have hcell:W.cell? ⟨g,i,none⟩=some (.int k z):=by rw[this];simp[hz]
 exact⟨TI hcell,_,hcell,by simp[ap]⟩
theorem A8{α:Type}{e:GT}{enc:α->List oH}{P:α->Prop}(he:∀cs,e.has cs->∃a,P a∧cs=enc a){cs:List oH}(h:(GT.sl e).has cs):∃l:List α,(∀a∈l,P a)∧cs=[.sl .plain none l.length (l.flatMap enc)]:=by
 obtain⟨ess,h1,rfl,h3⟩:=h
 suffices H:∃l:List α,(∀x∈l,P x)∧l.length=ess.length∧ess.flatten=l.flatMap enc by obtain⟨l,k1,k2,k3⟩:=H;exact⟨l,k1,by rw[k2,k3]⟩
 clear h3;induction ess with
 |nil=>exact⟨[],by simp,rfl,rfl⟩
 |cons c ess ih=>
  obtain⟨l,k1,k2,k3⟩:=ih λc hc=>h1 c (by simp[hc]);obtain⟨x,a0,rfl⟩:=he c (h1 c (by simp));refine⟨x::l,λy hy=> ?_,by simp[k2],by simp[k3]⟩;rcases List.mem_cons.1 hy with rfl|hy
  ·exact a0
  exact k1 y hy
theorem OP(l:List Int):(l.flatMap λx:Int=>[i64 x])=rD l:=by
 induction l with
 |nil=>rfl
 |cons a l ih=>rw[List.flatMap_cons,ih];rfl
theorem z8e{cs:List oH}(h:(GT.st [.int .i64,.int .i64,.int .i64,.int .i64,.int .i64,.int .i64,.str,.sl (.int .i64)]).has cs):∃c:Cmd,c.ok∧cs=yP c none:=by
 simp only[GT.has,GT.hasL] at h;obtain⟨a1,r1,rfl,h1,a2,r2,rfl,h2,a3,r3,rfl,h3,a4,r4,rfl,h4,a5,r5,rfl,h5,a6,r6,rfl,h6,a7,r7,rfl,h7,a8,r8,rfl,h8,rfl⟩:=h;obtain⟨k1,x1,y1,rfl⟩:=s9 (by simpa only[GT.has] using h1);obtain⟨k2,x2,y2,rfl⟩:=s9 (by simpa only[GT.has] using h2);obtain⟨k3,x3,y3,rfl⟩:=s9 (by simpa only[GT.has] using h3);obtain⟨k4,x4,y4,rfl⟩:=s9 (by simpa only[GT.has] using h4);obtain⟨k5,x5,y5,rfl⟩:=s9 (by simpa only[GT.has] using h5);obtain⟨k6,x6,y6,rfl⟩:=s9 (by simpa only[GT.has] using h6);obtain⟨s,rfl⟩:=z5I (by simpa only[GT.has] using h7);obtain⟨l,hl,e8⟩:=A8 (enc:=λx:Int=>[i64 x]) (P:=aO) (λcs hc=>by
  obtain⟨x,x0,x1,rfl⟩:=s9 hc;exact⟨x,⟨x0,x1⟩,rfl⟩) (by simpa only[GT.has] using h8)
 subst e8;have:(l.flatMap λx:Int=>[i64 x])=rD l:=OP l;rw[this];exact⟨⟨k1,k2,k3,k4,k5,k6,s,l⟩,⟨⟨x1,y1⟩,⟨x2,y2⟩,⟨x3,y3⟩,⟨x4,y4⟩,⟨x5,y5⟩,⟨x6,y6⟩,hl⟩,rfl⟩
def z2ca:GT:= .st [.int .i64,.int .i64,.int .i64,.int .i64,.int .i64,.int .i64,.str,.sl (.int .i64)]
def z8wa:GT:= .st [.int .i64,.int .i64,.int .i64,.int .i64,.int .i64,.int .i64,.int .i64,.bool,.arr 16 (.int .u8)]
theorem z3x(cs:List oH)(h:z8wa.has cs):∃m:sy,m.ok∧cs=uK m:=by simp only[z8wa,GT.has,GT.hasL] at h;obtain⟨a1,r1,rfl,h1,a2,r2,rfl,h2,a3,r3,rfl,h3,a4,r4,rfl,h4,a5,r5,rfl,h5,a6,r6,rfl,h6,a7,r7,rfl,h7,a8,r8,rfl,h8,a9,r9,rfl,h9,rfl⟩:=h;obtain⟨k1,x1,y1,rfl⟩:=s9 (by simpa only[GT.has] using h1);obtain⟨k2,x2,y2,rfl⟩:=s9 (by simpa only[GT.has] using h2);obtain⟨k3,x3,y3,rfl⟩:=s9 (by simpa only[GT.has] using h3);obtain⟨k4,x4,y4,rfl⟩:=s9 (by simpa only[GT.has] using h4);obtain⟨k5,x5,y5,rfl⟩:=s9 (by simpa only[GT.has] using h5);obtain⟨k6,x6,y6,rfl⟩:=s9 (by simpa only[GT.has] using h6);obtain⟨k7,x7,y7,rfl⟩:=s9 (by simpa only[GT.has] using h7);obtain⟨b,rfl⟩:=z4b (by simpa only[GT.has] using h8);obtain⟨d,hd,rfl⟩:=MO (n:=16) (by simpa only[GT.has] using h9);exact⟨⟨k1,k2,k3,k4,k5,k6,k7,b,d⟩,⟨⟨x1,y1⟩,⟨x2,y2⟩,⟨x3,y3⟩,⟨x4,y4⟩,⟨x5,y5⟩,⟨x6,y6⟩,⟨x7,y7⟩,hd⟩,by simp[uK]⟩
def z6qa:GT:= .st [.int .i64,.int .i64,.int .i64,.int .i64,z2ca,.arr 16 (.int .u8),.sl z8wa,.sl (.int .i64)]
theorem VN{cs:List oH}(h:(GT.sl (.int .i64)).has cs):∃l:List Int,(∀x∈l,aO x)∧cs=[.sl .plain none l.length (rD l)]:=by
 obtain⟨l,hl,e8⟩:=A8 (enc:=λx:Int=>[i64 x]) (P:=aO) (λcs hc=>by
  obtain⟨x,x0,x1,rfl⟩:=s9 hc;exact⟨x,⟨x0,x1⟩,rfl⟩) h
 subst e8;have:(l.flatMap λx:Int=>[i64 x])=rD l:=OP l;rw[this];exact⟨l,hl,rfl⟩
theorem Uv{cs:List oH}(h:z6qa.has cs):∃x:pm,x.ok∧cs=qf none none none x:=by rw[z6qa,GT.has] at h;simp only[GT.hasL] at h;obtain⟨a1,r1,rfl,h1,a2,r2,rfl,h2,a3,r3,rfl,h3,a4,r4,rfl,h4,a5,r5,rfl,h5,a6,r6,rfl,h6,a7,r7,rfl,h7,a8,r8,rfl,h8,rfl⟩:=h;obtain⟨k1,x1,y1,rfl⟩:=s9 h1;obtain⟨k2,x2,y2,rfl⟩:=s9 h2;obtain⟨k3,x3,y3,rfl⟩:=s9 h3;obtain⟨k4,x4,y4,rfl⟩:=s9 h4;obtain⟨c,hc,rfl⟩:=z8e h5;obtain⟨d,hd,rfl⟩:=MO (n:=16) h6;obtain⟨m,hm,rfl⟩:=A8 (enc:=uK) z3x h7;obtain⟨g,hg,rfl⟩:=VN h8;exact⟨⟨k1,k2,k3,k4,c,d,m,g⟩,⟨⟨x1,y1⟩,⟨x2,y2⟩,⟨x3,y3⟩,⟨x4,y4⟩,hc,hd,hm,hg⟩,by simp[qf,se]⟩
theorem z2B(l:List UInt8):wt (st l)=l.length+1:=by simp[st,wt]
theorem WK:∀(cs:List oH),(∀c∈cs,1<=wt c)->cs.length<=wtL cs
 |[],_=>Nat.zero_le _
 |c::cs,h=>by have:=WK cs (λd hd=>h d (by simp[hd]));have:=h c (by simp);rw[wtL,List.length_cons];omega
theorem RH(l:List Int):l.length<=wtL (rD l):=by have:=WK (rD l) (λc hc=>by obtain⟨x,_,rfl⟩:=List.mem_map.1 hc;exact Nat.le_refl 1);simpa[rD] using this
theorem z5P(l:List sy):l.length<=wtL (se l):=by
 induction l with
 |nil=>exact Nat.zero_le _
 |cons a l ih=>
  have e:se (a::l)=uK a++se l:=rfl;have:1<=wtL (uK a):=by have e2:uK a=i64 a.id::(uK a).tail:=rfl;rw[e2,wtL,show wt (i64 a.id)=1 from rfl];omega
  rw[e,bT,List.length_cons];omega
theorem z3ha(x:pm):wE x<=wtL (qf none none none x):=by
 have h1:=RH x.cmd.list;have h2:=z5P x.made;have h3:=RH x.gone;have e:qf none none none x=[i64 x.time,i64 x.kind,i64 x.req,i64 x.mode]++([i64 x.cmd.kind,i64 x.cmd.key,i64 x.cmd.other,i64 x.cmd.type,i64 x.cmd.uses,i64 x.cmd.life]++([st x.cmd.data,.sl .plain none x.cmd.list.length (rD x.cmd.list)]++(bys x.dig++[.sl .plain none x.made.length (se x.made),.sl .plain none x.gone.length (rD x.gone)]))):=by simp[qf,yP]
 rw[e,bT,bT,bT,bT];have w1:wtL [st x.cmd.data,.sl .plain none x.cmd.list.length (rD x.cmd.list)]=x.cmd.data.length+1+(wtL (rD x.cmd.list)+1):=by rw[wtL,wtL,wtL,z2B,show wt (.sl .plain none x.cmd.list.length (rD x.cmd.list))=wtL (rD x.cmd.list)+1 by simp only[wt]]
 have w2:wtL [.sl .plain none x.made.length (se x.made),.sl .plain none x.gone.length (rD x.gone)]=wtL (se x.made)+1+(wtL (rD x.gone)+1):=by rw[wtL,wtL,wtL,show wt (.sl .plain none x.made.length (se x.made))=wtL (se x.made)+1 by simp only[wt],show wt (.sl .plain none x.gone.length (rD x.gone))=wtL (rD x.gone)+1 by simp only[wt]]
 rw[w1,w2];unfold wE;have:=Nat.div_le_self x.cmd.data.length 100;omega
theorem Vr(l:List pm):E5 l<=wtL (pS l):=by
 induction l with
 |nil=>exact Nat.zero_le _
 |cons a l ih=>
  have e:pS (a::l)=qf none none none a++pS l:=rfl;have e2:E5 (a::l)=wE a+E5 l:=by simp[E5]
  have:=z3ha a;rw[e,bT,e2];omega
theorem Wz(l:List UInt8):l.length<=wtL (bys l):=by have:=WK (bys l) (λc hc=>by obtain⟨x,_,rfl⟩:=List.mem_map.1 hc;exact Nat.le_refl 1);simpa[bys] using this
theorem VQ{cs:List oH}(h:(GT.sl (.arr 16 (.int .u8))).has cs):∃l:List (List UInt8),qm l∧cs=[ur none l]:=by obtain⟨l,hl,rfl⟩:=A8 (enc:=bys) (P:=λd:List UInt8=>d.length=16) (λcs hc=>by obtain⟨d,hd,rfl⟩:=MO (n:=16) hc;exact⟨d,hd,rfl⟩) h;exact⟨l,hl,by rw[ur,dgs,bys,List.map_flatten,List.flatMap_def];rfl⟩
def z73:GT:= .st [.st [.int .i64,.sl (.arr 16 (.int .u8))],.sl z6qa]
theorem z8r{cs:List oH}(h:z73.has cs):∃(s:Int) (r:List (List UInt8)) (l:List pm),inI s∧qm r∧okL l∧cs=[i64 s,ur none r,qn none l]:=by rw[z73,GT.has] at h;simp only[GT.hasL] at h;obtain⟨a1,r1,rfl,h1,a2,r2,rfl,h2,rfl⟩:=h;rw[GT.has] at h1;simp only[GT.hasL] at h1;obtain⟨b1,q1,rfl,g1,b2,q2,rfl,g2,rfl⟩:=h1;obtain⟨s,s0,s1,rfl⟩:=s9 g1;obtain⟨r,hr,rfl⟩:=VQ g2;obtain⟨l,hl,rfl⟩:=A8 (enc:=qf none none none) (P:=pm.ok) (λcs hc=>Uv hc) h2;exact⟨s,r,l,⟨s0,s1⟩,hr,hl,rfl⟩
def z3ma:GT:= .st [.int .i64,.sl z6qa,.sl (.sl (.arr 16 (.int .u8)))]
theorem z1r{cs:List oH}(h:z3ma.has cs):∃p:Io,aO p.from'∧okL p.ents∧(∀q∈p.prs,qm q)∧oH.agg cs=EB none p:=by
 rw[z3ma,GT.has] at h;simp only[GT.hasL] at h;obtain⟨a1,r1,rfl,h1,a2,r2,rfl,h2,a3,r3,rfl,h3,rfl⟩:=h;obtain⟨f,f0,f1,rfl⟩:=s9 h1;obtain⟨l,hl,rfl⟩:=A8 (enc:=qf none none none) (P:=pm.ok) (λcs hc=>Uv hc) h2;obtain⟨q,hq,rfl⟩:=A8 (enc:=λl=>[ur none l]) (P:=qm) (λcs hc=>by obtain⟨l,hl,rfl⟩:=VQ hc;exact⟨l,hl,rfl⟩) h3;refine⟨⟨f,l,q⟩,⟨f0,f1⟩,hl,hq,?_⟩;rw[show(q.flatMap λl=>[ur none l])=Hv q by
  clear hq h3;induction q with
  |nil=>rfl
  |cons a q ih=>rw[List.flatMap_cons,ih];rfl]
 rfl
theorem z08(l:List (List (List UInt8)))(h:∀q∈l,qm q):Fb l<=wtL (Hv l):=by
 induction l with
 |nil=>exact Nat.zero_le _
 |cons a l ih=>
  have h1:=ih λq hq=>h q (by simp[hq]);have h2:=Wz (dgs a);rw[qL (h a (by simp))] at h2;have e:wtL (Hv (a::l))=(wtL (bys (dgs a))+1)+wtL (Hv l):=by show wt (ur none a)+wtL (Hv l)=_;simp only[ur,wt]
  rw[e];simp only[Fb,List.length_cons,List.map_cons,List.sum_cons] at h1⊢;omega
theorem V2(as:List oH)(h:z1S [z73,z3ma] as)(hb:wtL as<=1048576):UV.pre as:=by simp only[z1S] at h;obtain⟨c0,_,rfl,h0,c1,_,rfl,h1,rfl⟩:=h;obtain⟨s,r,l,hs,hr,hl,rfl⟩:=z8r h0;obtain⟨p,hf,hp,hq,e⟩:=z1r h1;have e1:z73.top [i64 s,ur none r,qn none l]=Xb s none none r l:=rfl;have e2:z3ma.top c1=EB none p:=e;rw[e2] at hb⊢;rw[show wtL [z73.top [i64 s,ur none r,qn none l],EB none p]=wt (Xb s none none r l)+(wt (EB none p)+0) from rfl] at hb;rw[show wt (Xb s none none r l)=wt (i64 s)+(wtL (bys (dgs r))+1+(wtL (pS l)+1+0)) by simp only[Xb,ur,qn,wt,wtL],show wt (EB none p)=wt (i64 p.from')+(wtL (pS p.ents)+1+(wtL (Hv p.prs)+1+0)) by simp only[EB,qn,wt,wtL]] at hb;have w1:=Vr l;have w2:=Vr p.ents;have w3:=z08 p.prs hq;have w4:=Wz (dgs r);rw[qL hr] at w4;exact⟨s,r,l,p,⟨hs,hr,by omega,hl,by omega,hf,hp,by omega,hq,by omega⟩,rfl⟩
end Go.Abs
end