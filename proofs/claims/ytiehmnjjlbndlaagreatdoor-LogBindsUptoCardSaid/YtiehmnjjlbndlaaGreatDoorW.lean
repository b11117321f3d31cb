/- Lemmas. -/
import Derived.Test.YtiehmnjjlbndlaaGreatDoorU
set_option linter.all false
namespace Go.Abs
set_option maxRecDepth 100000
def zx:av:=
 Yq (.block 1 (YR [3,5,6,7,8] [.norm [5]] [Yi 10 30 6 8,YJ 11 30 10,Yo 5 (.alloc 5 (List.replicate 10 (i64 0)++[st []]++[.sl .plain none 0 []]++bys (bF 16)++[.sl (.own 24) none 0 []]++[.sl (.own 1) none 0 []])),Ys 30 5 5 11] (.region [3,6,7,8] [.norm [5]] [Ym 12 3,Yf 13 28 5,Yl 14 5 13,Yn 15 14,Yo 16 (.bin .add (.c (i64 1)) (.s 15)),Yf 17 29 5,Yl 18 5 17,Yn 19 18,Yb 20 .add 16 19,Yf 21 4 5,Yf 22 7 21,Yl 23 5 22,Yn 24 23,Yb 25 .add 20 24,Yf 26 4 5,Yf 27 6 26,Yl 28 5 27,Yo 29 (.len true (.s 28)),YB 30 .quo 29 100,Yb 31 .add 25 30,Yb 32 .add 12 31,Ym 3 32]))) (.region [3,6,7,8] [.drop [5]] [YB 33 .add 8 1,Ym 8 33])
def uO:av:=
 Yr [3,6,7,8,9] [Yb 9 .lss 8 7] (Yq (Yd 9 (Yy [3,6,7,8]) (YY [3])) zx)
def zz:av:=
 Yr [2] [Ym 34 3,YB 35 .leq 34 200,Ym 2 35] .ret
def qz:nH:=
 {n:=1,wr:=[],res:=[.t 2],body:=Yr [] [Yw 2 false] (Yr [3] [Yc 3 0] (Yq (Yr [3,6,7,8] [Ym 6 0,Yn 7 6,Yc 8 0] (.block 0 (.loop uO))) zz))}
def ra:av:=
 Yq (.block 1 (YR [1,3,4,6,7,8] [.norm [1,4]] [Ym 10 8,Yi 11 30 6 8,YJ 12 30 11,Yo 4 (.alloc 4 (List.replicate 10 (i64 0)++[st []]++[.sl .plain none 0 []]++bys (bF 16)++[.sl (.own 24) none 0 []]++[.sl (.own 1) none 0 []])),Ym 3 10,Ys 30 4 4 12] (YR [1,6,7,8,31] [.norm [1,4]] [YL 13 30 4 4,Yk 14 331 13,YU 15 .not 14,Ym 16 15,Yg 16 (Ym 17 3),Yg 16 (YB 18 .gtr 17 0),Yg 16 (Ym 19 18),YG 19 (Yf 20 0 4),YG 19 (Yl 21 4 20),YG 19 (Yf 22 2 1),YG 19 (Yl 23 1 22),YG 19 (Ym 24 3),YG 19 (YB 25 .sub 24 1),YG 19 (Yi 26 30 23 25),YG 19 (Yf 27 0 26),YG 19 (Yj 28 27),YG 19 (Yb 29 .lss 21 28),Yg 16 (Yp 30 19 29),YP 31 16 30] (Yd 31 (Yr [2] [Yw 2 false] .ret) (Yy [1,6,7,8]))))) (.region [1,6,7,8] [.drop [4]] [YB 32 .add 8 1,Ym 8 32])
def pU:av:=
 Yr [1,6,7,8,9] [Yb 9 .lss 8 7] (Yq (Yd 9 (Yy [1,6,7,8]) (YY [1])) ra)
def t6:av:=
 YR [2] [.norm [1,4]] [Yf 33 0 1,YL 34 2 1 33,Yk 35 211 34,Ym 36 35,YG 36 (Yf 37 0 1),YG 36 (Yf 38 0 37),YG 36 (Yl 39 1 38),YG 36 (YB 40 .leq 39 60000),Yp 41 36 40,Ym 2 41] .ret
def pk:nH:=
 {n:=1,wr:=[],res:=[.t 2],body:=YR [1] [.norm [1]] [Yx 1 1 3 0,Yw 2 false] (Yq (YR [1,6,7,8] [.norm [1]] [Yf 5 2 1,Yl 6 1 5,Yn 7 6,Yc 8 0] (.block 0 (.loop pU))) t6)}
def wn:av:=
 Yq (.block 1 (YR [3,5,10,11,12] [.norm [1]] [Yi 14 1 10 12,Yj 15 14,YM 5 15] (Yu [3,10,11,12] [Ym 16 3,YM 17 5,Yn 18 17,Yb 19 .add 16 18,Ym 3 19]))) (Yu [3,10,11,12] [YB 20 .add 12 1,Ym 12 20])
def tn:av:=
 Yr [3,10,11,12,13] [Yb 13 .lss 12 11] (Yq (Yd 13 (Yy [3,10,11,12]) (YY [3])) wn)
def wh:av:=
 Yr [2] [Ym 21 3,Ym 2 21] .ret
def pR:nH:=
 {n:=1,wr:=[],res:=[.t 2],body:=YR [1] [.norm [1]] [Yx 1 1 3 0,Yc 2 0] (YR [1,3] [.norm [1]] [Yf 6 2 1,Yl 7 1 6,Yn 8 7,Ym 3 8] (Yq (YR [3,10,11,12] [.norm [1]] [Yf 9 2 1,Yl 10 1 9,Yn 11 10,Yc 12 0] (.block 0 (.loop tn))) wh))}
def DU:nH:=
 {n:=0,wr:=[],res:=[.t 0],body:=Yr [] [Yv 0 30] (Yr [0] [Yo 1 (.build (List.replicate 10 (i64 0)++[st []]++[.sl .plain none 0 []]++bys (bF 16)++[.sl .plain none 0 []]++[.sl .plain none 0 []]) [(0,1,.c (i64 1)),(3,1,.c (i64 1))]),Yo 2 (.build (List.replicate 10 (i64 0)++[st []]++[.sl .plain none 0 []]++bys (bF 16)++[.sl .plain none 0 []]++[.sl .plain none 0 []]) [(0,1,.c (i64 1)),(3,1,.c (i64 2))]),Yo 3 (.build (List.replicate 10 (i64 0)++[st []]++[.sl .plain none 0 []]++bys (bF 16)++[.sl .plain none 0 []]++[.sl .plain none 0 []]) [(0,1,.c (i64 4)),(3,1,.c (i64 1))]),Yo 4 (.buildSl 30 3 [i64 0,i64 0,i64 0,i64 0,i64 0,i64 0,i64 0,i64 0,i64 0,i64 0,st [],.sl .plain none 0 [],u8 0,u8 0,u8 0,u8 0,u8 0,u8 0,u8 0,u8 0,u8 0,u8 0,u8 0,u8 0,u8 0,u8 0,u8 0,u8 0,.sl .plain none 0 [],.sl .plain none 0 [],i64 0,i64 0,i64 0,i64 0,i64 0,i64 0,i64 0,i64 0,i64 0,i64 0,st [],.sl .plain none 0 [],u8 0,u8 0,u8 0,u8 0,u8 0,u8 0,u8 0,u8 0,u8 0,u8 0,u8 0,u8 0,u8 0,u8 0,u8 0,u8 0,.sl .plain none 0 [],.sl .plain none 0 [],i64 0,i64 0,i64 0,i64 0,i64 0,i64 0,i64 0,i64 0,i64 0,i64 0,st [],.sl .plain none 0 [],u8 0,u8 0,u8 0,u8 0,u8 0,u8 0,u8 0,u8 0,u8 0,u8 0,u8 0,u8 0,u8 0,u8 0,u8 0,u8 0,.sl .plain none 0 [],.sl .plain none 0 []] [(0,30,.s 1),(30,30,.s 2),(60,30,.s 3)]),YM 0 4] .ret)}
def okL(l:List pm):Prop:=∀x∈l,x.ok
theorem Jm{x:pm}(h:x.ok):(qf none none none x).length=30:=uD h.2.2.2.2.2.1
theorem Td{l:List pm}(h:okL l):(pS l).length=l.length*30:=by
 induction l with
 |nil=>rfl
 |cons a l ih=>have:=ih λm hm=>h m (by simp[hm]);rw[pS] at this⊢;rw[List.flatMap_cons,List.length_append,this,Jm (h a (by simp)),List.length_cons];omega
theorem UB{l:List pm}(h:okL l){i:Nat}(hi:i<l.length):((pS l).drop (i*30)).take 30=qf none none none l[i]:=by have e1:=Dk (enc:=qf none none none) (P:=pm.ok) (w:=30) (λa ha=>Jm ha) l i h;rw[show pS l=l.flatMap (qf none none none) from rfl,e1,List.drop_eq_getElem_cons hi,List.flatMap_cons,List.take_left' (Jm (h _ (List.getElem_mem hi)))]
theorem Vm{l:List pm}(h:okL l):Cr l.length (pS l)=l:=Wj (enc:=qf none none none) (P:=pm.ok) (λa ha=>Jm ha) (λa ha=>Nt ha.2.2.2.2.2.1 (sh ha.2.2.2.2.2.2.1)) l h
def wE(x:pm):Nat:=1+x.made.length+x.gone.length+x.cmd.list.length+x.cmd.data.length/100
def E5(l:List pm):Nat:=(l.map wE).sum
def ZA(l:List pm):Bool:=decide (E5 l<=200)
theorem Uc{l:List pm}{i:Nat}(h:i<l.length):E5 (l.take (i+1))=E5 (l.take i)+wE l[i]:=by rw[E5,E5,List.take_succ_eq_append_getElem h,List.map_append,List.sum_append];simp
theorem z8N(l:List pm)(i:Nat):E5 (l.take i)<=E5 l:=by
 conv=>rhs;rw[<-List.take_append_drop i l]
 rw[E5,E5,List.map_append,List.sum_append];omega
theorem z5ya{l:List pm}{x:pm}(h:x∈l):wE x<=E5 l:=by
 induction l with
 |nil=>cases h
 |cons a l ih=>
  have e:E5 (a::l)=wE a+E5 l:=by simp[E5]
  rw[e];rcases List.mem_cons.1 h with rfl|h
  ·omega
  have:=ih h;omega
theorem Rz(l:List pm):l.length<=E5 l:=by
 induction l with
 |nil=>simp
 |cons a l ih=>
  have e:E5 (a::l)=wE a+E5 l:=by simp[E5]
  have:1<=wE a:=by unfold wE;omega
  rw[e,List.length_cons];omega
def Qr:aW:=⟨λds=>∃(nl:Option Bool) (l:List pm),okL l∧E5 l<=1000000000∧ds=[qn nl l],λds=>bo (ZA (Cr (gNn (nth ds 0)) (gCs (nth ds 0))))⟩
theorem Rc{nl:Option Bool}{l:List pm}(h:okL l)(hs:E5 l<=1000000000):Qr.pre [qn nl l]=True:=eq_true ⟨nl,l,h,hs,rfl⟩
theorem I1{nl:Option Bool}{l:List pm}(h:okL l):Qr.post [qn nl l]=bo (ZA l):=by show bo (ZA (Cr l.length (pS l)))=_;rw[Vm h]
theorem Lb{l:List pm}(h:okL l)(hf:ZA l=true):Bh l∧l.length<=200:=by
 have hs:E5 l<=200:=by simpa[ZA] using hf
 refine⟨λx hx=> ?_,Nat.le_trans (Rz l) hs⟩;have h1:=z5ya hx;unfold wE at h1;exact⟨h x hx,⟨(h x hx).2.2.2.2.1,by omega,by omega⟩,by omega,by omega⟩
set_option maxHeartbeats 8000000 in
theorem z0s(E:Env):∀ds,Qr.pre ds->ds.length=qz.n∧awp E qz.body (qH qz.res (Qr.post ds)) (fP qz.wr ds):=by
 rintro _ ⟨nl,l,h,hs,rfl⟩;rw[I1 h];unfold qn;have hlen:=Td h;have hl:=Rz l;generalize hQf:qH qz.res (bo (ZA l))=Qf;simp(maxSteps:=999999) (disch:=first|omega|simp<;>omega|rfl) [fJ,oG,oF,qz];refine oI λQ1 hQ1=> ?_;refine dH (λi:Nat=>⟨[(0,.sl .plain nl l.length (pS l))],[(3,i64 (E5 (l.take i):Nat)),(6,.sl .plain nl l.length (pS l)),(7,i64 l.length),(8,i64 i)],[]⟩) (λi=>l.length-i) (λi=>i<=l.length) 0 (by simp[E5]) (by simp) λi hi=> ?_;refine oI λQ2 hQ2=> ?_;by_cases c:i<l.length
 ·have hx:=h _ (List.getElem_mem c);have hat:=UB h c;have hsum:=Uc c;have hle:=z8N l (i+1);have hxl:=Jm hx;generalize hX:l[i]=x at*
  have hd:=hx.2.2.2.2.2.1;have a7:hdA ((qf none none none x).drop 11)= .sl .plain none x.cmd.list.length (rD x.cmd.list):=rfl;have a6:hdA ((qf none none none x).drop 10)=st x.cmd.data:=rfl;have a28:hdA ((qf none none none x).drop 28)= .sl .plain none x.made.length (se x.made):=Gy hd;have a29:hdA ((qf none none none x).drop 29)= .sl .plain none x.gone.length (rD x.gone):=Gu hd;have hle2:30<=l.length*30-i*30:=by omega
  have hle3:i*30<=l.length*30:=by omega
  have hw:wE x=1+x.made.length+x.gone.length+x.cmd.list.length+x.cmd.data.length/100:=rfl;have htk:List.take 30 (qf none none none x)=qf none none none x:=List.take_of_length_le (by omega);generalize hS:E5 (l.take i)=S at*
  have sp:splice (i64 0::i64 0::i64 0::i64 0::i64 0::i64 0::i64 0::i64 0::i64 0::i64 0::st []:: .sl .plain none 0 []::(bys (bF 16)++[.sl (.own 24) none 0 [],.sl (.own 1) none 0 []])) 0 (qf none none none x)=qf none none none x:=z3t rfl hxl;simp(maxSteps:=999999) (disch:=first|omega|simp<;>omega|rfl) [fJ,oG,oF,uO,zx,kT,kF,dT,dF,c,hlen,hat,hxl,htk,a6,a7,a28,a29,hle2,hle3,sp,hQ2];exact⟨i+1,by omega,by omega,by rw[hsum,hw];omega,by omega⟩
 obtain rfl:i=l.length:=by omega
 have hd:decide (((E5 l:Nat):Int)<=200)=decide (E5 l<=200):=decide_eq_decide.2 (by omega);simp(maxSteps:=999999) (disch:=first|omega|simp<;>omega|rfl) [fJ,oG,oF,uO,zz,qz,kT,kF,dT,dF,hQ2,hQ1,List.take_length,<-hQf,ZA,hd]
theorem z9ia(E:Env):∀ds,z8p.pre ds->ds.length=rI.n∧awp E rI.body (qH rI.res (z8p.post ds)) (fP rI.wr ds):=by
 rintro _ ⟨n,lo,hi,rfl⟩;rw[X1];by_cases h1:lo<=n
 ·by_cases h2:n<=hi
  ·simp(maxSteps:=999999) (disch:=first|omega|simp<;>omega|rfl) [fJ,oG,oF,rI,inR,h1,h2]
  simp(maxSteps:=999999) (disch:=first|omega|simp<;>omega|rfl) [fJ,oG,oF,rI,inR,h1,h2]
 simp(maxSteps:=999999) (disch:=first|omega|simp<;>omega|rfl) [fJ,oG,oF,rI,inR,h1]
def Y9(l:List Int)(x:Int):Nat:=l.findIdx λy=>decide (y=x)
def z9n(l:List Int)(x:Int):Int:=if Y9 l x<l.length then(Y9 l x:Int) else-1
def MY:aW:=⟨λds=>∃(nl:Option Bool) (l:List Int) (x:Int),l.length<=1000000000∧ds=[.sl .plain nl l.length (rD l),i64 x],λds=>i64 (z9n (gIs (gCs (nth ds 0))) (asI (nth ds 1)))⟩
theorem Ri{nl:Option Bool}{n:Nat}{l:List Int}{x:Int}(h:l.length<=1000000000)(hn:n=l.length):MY.pre [.sl .plain nl n (rD l),i64 x]=True:=eq_true ⟨nl,l,x,h,by rw[hn]⟩
theorem NL(nl:Option Bool)(n:Nat)(l:List Int)(x:Int):MY.post [.sl .plain nl n (rD l),i64 x]=i64 (z9n l x):=by simp[MY,nth]
theorem z0Q{l:List Int}{x:Int}{i:Nat}(hi:i<l.length)(h0:∀j<i,atI l j≠x)(h:atI l i=x):Y9 l x=i:=by
 have ha:∀j (hj:j<l.length),atI l j=l[j]:=λj hj=>by simp[atI,List.getD,List.getElem?_eq_getElem hj]
 apply Nat.le_antisymm
 ·apply Nat.le_of_not_lt;intro hlt;have:=List.not_of_lt_findIdx (p:=λy=>decide (y=x)) (xs:=l) hlt;rw[ha i hi] at h;simp[h] at this
 apply Nat.le_of_not_lt;intro hlt;have hl:Y9 l x<l.length:=by omega
 have h1:decide (l[Y9 l x]=x)=true:=List.findIdx_getElem (p:=λy=>decide (y=x)) (xs:=l) (w:=hl);exact h0 _ hlt (by rw[ha _ hl];exact of_decide_eq_true h1)
theorem z1B{l:List Int}{x:Int}(h0:∀j<l.length,atI l j≠x):Y9 l x=l.length:=by apply Nat.le_antisymm (List.findIdx_le_length);apply Nat.le_of_not_lt;intro hl;have h1:decide (l[Y9 l x]=x)=true:=List.findIdx_getElem (p:=λy=>decide (y=x)) (xs:=l) (w:=hl);exact h0 _ hl (by simp only[atI,List.getD,List.getElem?_eq_getElem hl];exact of_decide_eq_true h1)
theorem z2t(E:Env):∀ds,MY.pre ds->ds.length=sV.n∧awp E sV.body (qH sV.res (MY.post ds)) (fP sV.wr ds):=by
 rintro _ ⟨nl,l,x,hl,rfl⟩;rw[NL];simp(maxSteps:=999999) (disch:=first|omega|simp<;>omega|rfl) [fJ,oG,oF,sV];refine oI λQ0 hQ0=> ?_;refine dH (λi:Nat=>⟨[(0,.sl .plain nl l.length (rD l)),(1,i64 x)],[(7,i64 l.length),(8,i64 i)],[]⟩)
  (λi=>l.length-i) (λi=>i<=l.length∧∀j<i,atI l j≠x) 0 (by simp) (by simp) λi hi=> ?_
 obtain⟨hi,he⟩:=hi;refine oI λQ1 hQ1=> ?_;by_cases h1:i<l.length
 ·by_cases h2:x=atI l i
  ·have hp:=z0Q h1 he h2.symm;have hR:z9n l x=(i:Int):=by rw[z9n,hp,if_pos h1]
   simp(maxSteps:=999999) (disch:=first|omega|simp<;>omega|rfl) [fJ,oG,oF,uY,yj,kT,kF,dT,dF,B6,h1,h2,hQ1,hQ0];exact⟨by omega,by rw[<-h2,hR]⟩
  simp(maxSteps:=999999) (disch:=first|omega|simp<;>omega|rfl) [fJ,oG,oF,uY,yj,kT,kF,dT,dF,B6,h1,h2,hQ1];refine⟨by omega,i+1,by omega,⟨by omega,λj hj=> ?_⟩,by omega⟩;rcases Nat.lt_or_eq_of_le (Nat.lt_succ_iff.1 hj) with h|h
  ·exact he j h
  rw[h];exact λe=>h2 e.symm
 have hl':i=l.length:=by omega
 have hp:=z1B (l:=l) (x:=x) (λj hj=>he j (by omega));have hR:z9n l x= -1:=by rw[z9n,hp,if_neg (by omega)]
 simp(maxSteps:=999999) (disch:=first|omega|simp<;>omega|rfl) [fJ,oG,oF,uY,kT,kF,dT,dF,h1,hQ1,hQ0,CL,hR]
def KJ:aW:=⟨MY.pre,λds=>bo (decide (asI (nth ds 1)∈gIs (gCs (nth ds 0))))⟩
theorem Z2{nl:Option Bool}{n:Nat}{l:List Int}{x:Int}(h:l.length<=1000000000)(hn:n=l.length):KJ.pre [.sl .plain nl n (rD l),i64 x]=True:=Ri h hn
theorem OV(nl:Option Bool)(n:Nat)(l:List Int)(x:Int):KJ.post [.sl .plain nl n (rD l),i64 x]=bo (decide (x∈l)):=by simp[KJ,nth]
theorem z7c(l:List Int)(x:Int):decide (0<=z9n l x)=decide (x∈l):=by
 have:Y9 l x<l.length↔x∈l:=by rw[Y9,List.findIdx_lt_length];simp
 unfold z9n;by_cases h:x∈l
 ·rw[if_pos (this.2 h)];simp[h]
 rw[if_neg (λe=>h (this.1 e))];simp[h]
theorem z6F(E:Env)(h314:E.G 314=MY):∀ds,KJ.pre ds->ds.length=rA.n∧awp E rA.body (qH rA.res (KJ.post ds)) (fP rA.wr ds):=by rintro _ ⟨nl,l,x,hl,rfl⟩;rw[OV,<-z7c];simp(maxSteps:=999999) (disch:=first|omega|simp<;>omega|rfl) [fJ,oG,oF,rA,h314,Ri,NL]
theorem z0ba(E:Env)(h312:E.G 312=KJ):∀ds,z2M.pre ds->ds.length=s8.n∧awp E s8.body (qH s8.res (z2M.post ds)) (fP s8.wr ds):=by rintro _ ⟨k,rfl⟩;rw[XV];have hp:KJ.pre [.sl .plain (some false) 8 [i64 2,i64 4,i64 5,i64 6,i64 8,i64 10,i64 15,i64 19],i64 k]=True:=Z2 (l:=[2,4,5,6,8,10,15,19]) (by simp) rfl;have hq:KJ.post [.sl .plain (some false) 8 [i64 2,i64 4,i64 5,i64 6,i64 8,i64 10,i64 15,i64 19],i64 k]=bo (S5 k):=OV (some false) 8 [2,4,5,6,8,10,15,19] k;simp(maxSteps:=999999) (disch:=first|omega|simp<;>omega|rfl) [fJ,oG,oF,s8,h312,hp,hq]
theorem SF{c:Cmd}(h:c.small):(RT c).small:=by
 unfold RT;split
 ·exact⟨h.1,by simp,h.2.2⟩
 exact h
theorem z8W(E:Env):∀ds,z4G.pre ds->ds.length=uP.n∧awp E uP.body (qH uP.res (z4G.post ds)) (fP uP.wr ds):=by rintro _ ⟨t,m,rfl⟩;rw[z2b];simp(maxSteps:=999999) (disch:=first|omega|simp<;>omega|rfl) [fJ,oG,oF,uP,qf,NU,dE,yP,zn,zb,z94 (a:=bF 16) (b:=bF 16) rfl,z8va (d:=bF 16) rfl,or_imp,forall_and,z8m,z1va];rfl
set_option maxHeartbeats 8000000 in
theorem z6w(E:Env):∀ds,Qi.pre ds->ds.length=qt.n∧awp E qt.body (qH qt.res (Qi.post ds)) (fP qt.wr ds):=by
 rintro _ ⟨c,nl,hc,rfl⟩;rw[Oj];obtain⟨k1,k2,k3,k4,k5,k6,dt,ls⟩:=c;by_cases hs:S5 k1=true
 ·have hk:RT ⟨k1,k2,k3,k4,k5,k6,dt,ls⟩=⟨k1,k2,k3,k4,k5,k6,[],ls⟩:=by simp[RT,hs]
  rw[hk];simp only[S5,List.mem_cons,List.not_mem_nil,or_false,decide_eq_true_eq] at hs;rcases hs with rfl|rfl|rfl|rfl|rfl|rfl|rfl|rfl<;>simp(maxSteps:=999999) (disch:=first|omega|simp<;>omega|rfl) [fJ,oG,oF,qt,tY,ud,yP,kT,kF,zn,zb]
 have hk:RT ⟨k1,k2,k3,k4,k5,k6,dt,ls⟩=⟨k1,k2,k3,k4,k5,k6,dt,ls⟩:=by simp[RT,hs]
 rw[hk];simp only[S5,List.mem_cons,List.not_mem_nil,or_false,decide_eq_true_eq,not_or] at hs;obtain⟨n1,n2,n3,n4,n5,n6,n7,n8⟩:=hs;simp(maxSteps:=999999) (disch:=first|omega|simp<;>omega|rfl) [fJ,oG,oF,qt,tY,ud,yP,kT,kF,n1,n2,n3,n4,n5,n6,n7,n8,zn,zb]
theorem UM(v:BitVec 64):IntKind.i64.wrap (v.toNat:Int)=v.toInt:=by have h:=v.isLt;rw[BitVec.toInt_eq_toNat_cond];show(let m:=(v.toNat:Int)% 2^64;if true&&decide (2^(64-1)<=m) then m-2^64 else m)=_;simp only[Bool.true_and,decide_eq_true_eq,show(2:Int)^(64-1)=9223372036854775808 from rfl,show(2:Int)^64=18446744073709551616 from rfl,show(2:Nat)^64=18446744073709551616 from rfl];have h:v.toNat<18446744073709551616:=h;split<;>split<;>omega
theorem Nl{n:Int}(h:aO n):(BitVec.ofInt 64 n).toInt=n:=by obtain⟨h1,h2⟩:=h;rw[BitVec.toInt_ofInt];rw[Int.bmod_def];split<;>omega
theorem z2W(x c:BitVec 64):x&&& ~~~c=0#64↔x&&&c=x:=by
 constructor
 ·intro h;apply BitVec.eq_of_getLsbD_eq;intro i hi;have:=congrArg (λv=>v.getLsbD i) h;simp[hi] at this⊢;exact this
 intro h;apply BitVec.eq_of_getLsbD_eq;intro i hi;have:=congrArg (λv=>v.getLsbD i) h;simp[hi] at this⊢;exact this
theorem WC{n:Int}(h:aO n):Jr n=(z7j n 956==n):=by
 have e1:gg n 956=(BitVec.ofInt 64 n&&& ~~~BitVec.ofInt 64 956).toInt:=UM _;have e2:z7j n 956=(BitVec.ofInt 64 n&&&BitVec.ofInt 64 956).toInt:=UM _;rw[Bool.eq_iff_iff,Jr,beq_iff_eq,beq_iff_eq,e1,e2];have z:(0:Int)=(0#64:BitVec 64).toInt:=by decide
 rw[z,BitVec.toInt_inj,z2W];constructor
 ·intro e;rw[e,Nl h]
 intro e;have:=(BitVec.toInt_inj (x:=BitVec.ofInt 64 n&&&BitVec.ofInt 64 956) (y:=BitVec.ofInt 64 n)).1 (by rw[e,Nl h]);exact this
theorem ZI{m:sy}(h:aO m.uses):EQ m=true↔1<=m.id∧m.id<=2147483647∧1<=m.ver∧m.ver<=2147483647∧0<=m.par∧m.par<=2147483647∧0<=m.ty∧m.ty<=31∧z7j m.uses 956=m.uses∧0<=m.beg∧m.beg<=m.fin∧0<=m.fin∧m.fin<=1099511627776:=by simp only[EQ,BZ,WC h,Bool.and_eq_true,beq_iff_eq];simp only[NE,Qw,and_assoc]
theorem z2ja{p:sy->Bool}{l:List sy}{i:Nat}(h:i<l.length)(hp:p (atD l i)=false):l.all p=false:=by
 cases ha:l.all p with
 |false=>rfl
 |true=>have:=List.all_eq_true.1 ha _ (MZ h);rw[hp] at this;cases this
theorem z0M{p:sy->Bool}{l:List sy}(h:∀j<l.length,p (atD l j)=true):l.all p=true:=by rw[List.all_eq_true];intro x hx;obtain⟨i,hi,rfl⟩:=List.mem_iff_getElem.1 hx;rw[<-JJ hi];exact h i hi
theorem z8b(c:Cmd):Gk c (RT c)=(!S5 c.kind||decide (c.data=[])):=by
 unfold RT;cases hs:S5 c.kind
 ·simp[Gk]
 obtain⟨k1,k2,k3,k4,k5,k6,dt,ls⟩:=c;simp[Gk];cases dt<;>rfl
set_option maxHeartbeats 16000000 in
theorem z3r(E:Env)(h149:E.G 149=BQ)(h327:E.G 327=Qi):∀ds,PQ.pre ds->ds.length=rh.n∧awp E rh.body (qH rh.res (PQ.post ds)) (fP rh.wr ds):=by
 rintro _ ⟨nc,nm,ng,x,hx,rfl⟩;rw[Gd hx];have h16:=hx.1.2.2.2.2.2.2.1;have hd:=hx.1.2.2.2.2.2.1;have hml:=hx.2.2.1;have hgl:=hx.2.2.2;have hl:=uD (nc:=nc) (nm:=nm) (ng:=ng) hd;have e28:=Gy (nc:=nc) (nm:=nm) (ng:=ng) hd;have e29:=Gu (nc:=nc) (nm:=nm) (ng:=ng) hd;have hg:=FC (nc:=nc) (nm:=nm) (ng:=ng) hd;have hlen:=wW (sh h16);obtain⟨Z,hZ⟩:∃Z,Z=okE x:=⟨_,rfl⟩;rw[<-hZ];have hzl:¬(0<=x.time∧x.time<=1099511627776∧0<=x.req∧x.req<=2147483647∧1<=x.mode∧x.mode<=5∧x.made.length<=4096∧x.gone.length<=4096)->Z=false:=λh=>by
  cases hc:okE x
  ·rw[hZ,hc]
  exact absurd (Hg hc) h
 refine⟨rfl,?_⟩;simp only[rh];refine oI λQ9 hQ9=> ?_;refine yK λB hB=> ?_;simp(maxSteps:=999999) (disch:=first|omega|simp<;>omega|rfl) [fJ,oG,oF,hl];rw[hB];clear hB;rw[qg];refine oI λQ1 hQ1=> ?_;rw[qg];refine oI λQ2 hQ2=> ?_;rw[ji];refine o0 λT hT=> ?_;simp(maxSteps:=999999) (disch:=first|omega|simp<;>omega|rfl) [fJ,oG,oF,wO,hl,e28,e29];by_cases b1:x.time<0
 ·refine oU true 10 46 (by simp[b1]) (by rw[hT];kernel_rfl) (by rw[hT];kernel_rfl) ?_;have hz:Z=false:=hzl (by omega);simp(maxSteps:=999999) (disch:=first|omega|simp<;>omega|rfl) [fJ,oG,oF,hQ2,hQ1,hQ9,kT,hz]
 rw[hT];clear hT;refine o0 λT hT=> ?_;simp(maxSteps:=999999) (disch:=first|omega|simp<;>omega|rfl) [fJ,oG,oF,wZ,hl,e28,e29,b1];by_cases b2:1099511627776<x.time
 ·refine oU true 15 46 (by simp[b2]) (by rw[hT];kernel_rfl) (by rw[hT];kernel_rfl) ?_;have hz:Z=false:=hzl (by omega);simp(maxSteps:=999999) (disch:=first|omega|simp<;>omega|rfl) [fJ,oG,oF,hQ2,hQ1,hQ9,kT,hz]
 rw[hT];clear hT;refine o0 λT hT=> ?_;simp(maxSteps:=999999) (disch:=first|omega|simp<;>omega|rfl) [fJ,oG,oF,wP,hl,e28,e29,b1,b2];by_cases b3:x.req<0
 ·refine oU true 20 46 (by simp[b3]) (by rw[hT];kernel_rfl) (by rw[hT];kernel_rfl) ?_;have hz:Z=false:=hzl (by omega);simp(maxSteps:=999999) (disch:=first|omega|simp<;>omega|rfl) [fJ,oG,oF,hQ2,hQ1,hQ9,kT,hz]
 rw[hT];clear hT;refine o0 λT hT=> ?_;simp(maxSteps:=999999) (disch:=first|omega|simp<;>omega|rfl) [fJ,oG,oF,xj,hl,e28,e29,b1,b2,b3];by_cases b4:2147483647<x.req
 ·refine oU true 25 46 (by simp[b4]) (by rw[hT];kernel_rfl) (by rw[hT];kernel_rfl) ?_;have hz:Z=false:=hzl (by omega);simp(maxSteps:=999999) (disch:=first|omega|simp<;>omega|rfl) [fJ,oG,oF,hQ2,hQ1,hQ9,kT,hz]
 rw[hT];clear hT;refine o0 λT hT=> ?_;simp(maxSteps:=999999) (disch:=first|omega|simp<;>omega|rfl) [fJ,oG,oF,wS,hl,e28,e29,b1,b2,b3,b4];by_cases b5:x.mode<1
 ·refine oU true 30 46 (by simp[b5]) (by rw[hT];kernel_rfl) (by rw[hT];kernel_rfl) ?_;have hz:Z=false:=hzl (by omega);simp(maxSteps:=999999) (disch:=first|omega|simp<;>omega|rfl) [fJ,oG,oF,hQ2,hQ1,hQ9,kT,hz]
 rw[hT];clear hT;refine o0 λT hT=> ?_;simp(maxSteps:=999999) (disch:=first|omega|simp<;>omega|rfl) [fJ,oG,oF,xD,hl,e28,e29,b1,b2,b3,b4,b5];by_cases b6:5<x.mode
 ·refine oU true 35 46 (by simp[b6]) (by rw[hT];kernel_rfl) (by rw[hT];kernel_rfl) ?_;have hz:Z=false:=hzl (by omega);simp(maxSteps:=999999) (disch:=first|omega|simp<;>omega|rfl) [fJ,oG,oF,hQ2,hQ1,hQ9,kT,hz]
 rw[hT];clear hT;refine o0 λT hT=> ?_;simp(maxSteps:=999999) (disch:=first|omega|simp<;>omega|rfl) [fJ,oG,oF,xl,hl,e28,e29,b1,b2,b3,b4,b5,b6];by_cases b7:4096<(x.made.length:Int)
 ·refine oU true 41 46 (by simp[b7]) (by rw[hT];kernel_rfl) (by rw[hT];kernel_rfl) ?_;have hz:Z=false:=hzl (by omega);simp(maxSteps:=999999) (disch:=first|omega|simp<;>omega|rfl) [fJ,oG,oF,hQ2,hQ1,hQ9,kT,hz]
 rw[hT];clear hT;by_cases b8:4096<(x.gone.length:Int)
 ·have hz:Z=false:=hzl (by omega);simp(maxSteps:=999999) (disch:=first|omega|simp<;>omega|rfl) [fJ,oG,oF,hQ2,hQ1,hQ9,kT,hz,t8,hl,e28,e29,b1,b2,b3,b4,b5,b6,b7,b8]
 simp(maxSteps:=999999) (disch:=first|omega|simp<;>omega|rfl) [fJ,oG,oF,t8,hl,e28,e29,b1,b2,b3,b4,b5,b6,b7,b8,hQ2,hQ1,kF];simp(maxSteps:=999999) (disch:=first|omega|simp<;>omega|rfl) [fJ,oG,oF,wU];refine oI λQ3 hQ3=> ?_;refine dH (λi:Nat=>⟨[(0,.agg (qf nc nm ng x))],[(1,.bp 1 0),(3,i64 i)],[(1,some (qf nc nm ng x))]⟩)
  (λi=>x.made.length-i) (λi=>i<=x.made.length∧∀j<i,EQ (atD x.made j)=true) 0 (by simp) (by simp) λi hi=> ?_
 obtain⟨hi,he⟩:=hi;refine oI λQ4 hQ4=> ?_;by_cases h1:i<x.made.length
 ·have hm:=h16 _ (MZ h1);have hmd:=hm.2.2.2.2.2.2.2;have ha:=TW h16 h1;have hmll:=uc hmd;have hle:24<=x.made.length*24-i*24:=by omega
  have hle2:i*24<=x.made.length*24:=by omega
  have hno:EQ (atD x.made i)=false->Z=false:=λh=>by have:=z2ja (p:=EQ) h1 h;rw[hZ];simp only[okE,this];simp
  have hst:∀j<i+1,j<i∨j=i:=λj hj=>by omega
  obtain⟨m,hX⟩:∃m,m=atD x.made i:=⟨_,rfl⟩;rw[<-hX] at hm hmd ha hmll hno;have sp:splice (i64 0::i64 0::i64 0::i64 0::i64 0::i64 0::i64 0::bo false::bys (bF 16)) 0 (uK m)=uK m:=U1 hmd rfl;have hiff:=ZI hm.2.2.1;have hno2:¬(1<=m.id∧m.id<=2147483647∧1<=m.ver∧m.ver<=2147483647∧0<=m.par∧m.par<=2147483647∧0<=m.ty∧m.ty<=31∧z7j m.uses 956=m.uses∧0<=m.beg∧m.beg<=m.fin∧0<=m.fin∧m.fin<=1099511627776)->Z=false:=λh=>hno (by
   cases hc:EQ m
   ·rfl
   exact absurd (hiff.1 hc) h)
  simp(maxSteps:=999999) (disch:=first|omega|simp<;>omega|rfl) [fJ,oG,oF,tT,kT,kF,dT,dF,h1,e28,hl];simp only[wQ];rw[qg];refine oI λQ5 hQ5=> ?_;rw[z5N];refine oI λQ6 hQ6=> ?_;refine yK λB hB=> ?_;simp(maxSteps:=999999) (disch:=first|omega|simp<;>omega|rfl) [fJ,oG,oF,e28,hl,hlen,hle,hle2,ha,sp,hmll,EI,Hi,h1];rw[hB];clear hB;rw[qg];refine oI λQ7 hQ7=> ?_;rw[ji];refine o0 λT hT=> ?_;simp(maxSteps:=999999) (disch:=first|omega|simp<;>omega|rfl) [fJ,oG,oF,xv,hmll];by_cases c1:m.id<1
  ·refine oU true 62 121 (by simp[c1]) (by rw[hT];kernel_rfl) (by rw[hT];kernel_rfl) ?_;have hz:Z=false:=hno2 (by omega);simp(maxSteps:=999999) (disch:=first|omega|simp<;>omega|rfl) [fJ,oG,oF,hQ7,hQ6,hQ5,hQ4,hQ3,hQ9,kT,hz]
  rw[hT];clear hT;refine o0 λT hT=> ?_;simp(maxSteps:=999999) (disch:=first|omega|simp<;>omega|rfl) [fJ,oG,oF,w8,hmll,c1];by_cases c2:2147483647<m.id
  ·refine oU true 67 121 (by simp[c2]) (by rw[hT];kernel_rfl) (by rw[hT];kernel_rfl) ?_;have hz:Z=false:=hno2 (by omega);simp(maxSteps:=999999) (disch:=first|omega|simp<;>omega|rfl) [fJ,oG,oF,hQ7,hQ6,hQ5,hQ4,hQ3,hQ9,kT,hz]
  rw[hT];clear hT;refine o0 λT hT=> ?_;simp(maxSteps:=999999) (disch:=first|omega|simp<;>omega|rfl) [fJ,oG,oF,wg,hmll,c1,c2];by_cases c3:m.ver<1
  ·refine oU true 72 121 (by simp[c3]) (by rw[hT];kernel_rfl) (by rw[hT];kernel_rfl) ?_;have hz:Z=false:=hno2 (by omega);simp(maxSteps:=999999) (disch:=first|omega|simp<;>omega|rfl) [fJ,oG,oF,hQ7,hQ6,hQ5,hQ4,hQ3,hQ9,kT,hz]
  rw[hT];clear hT;refine o0 λT hT=> ?_;simp(maxSteps:=999999) (disch:=first|omega|simp<;>omega|rfl) [fJ,oG,oF,wc,hmll,c1,c2,c3];by_cases c4:2147483647<m.ver
  ·refine oU true 77 121 (by simp[c4]) (by rw[hT];kernel_rfl) (by rw[hT];kernel_rfl) ?_;have hz:Z=false:=hno2 (by omega);simp(maxSteps:=999999) (disch:=first|omega|simp<;>omega|rfl) [fJ,oG,oF,hQ7,hQ6,hQ5,hQ4,hQ3,hQ9,kT,hz]
  rw[hT];clear hT;refine o0 λT hT=> ?_;simp(maxSteps:=999999) (disch:=first|omega|simp<;>omega|rfl) [fJ,oG,oF,wj,hmll,c1,c2,c3,c4];by_cases c5:m.par<0
  ·refine oU true 82 121 (by simp[c5]) (by rw[hT];kernel_rfl) (by rw[hT];kernel_rfl) ?_;have hz:Z=false:=hno2 (by omega);simp(maxSteps:=999999) (disch:=first|omega|simp<;>omega|rfl) [fJ,oG,oF,hQ7,hQ6,hQ5,hQ4,hQ3,hQ9,kT,hz]
  rw[hT];clear hT;refine o0 λT hT=> ?_;simp(maxSteps:=999999) (disch:=first|omega|simp<;>omega|rfl) [fJ,oG,oF,ww,hmll,c1,c2,c3,c4,c5];by_cases c6:2147483647<m.par
  ·refine oU true 87 121 (by simp[c6]) (by rw[hT];kernel_rfl) (by rw[hT];kernel_rfl) ?_;have hz:Z=false:=hno2 (by omega);simp(maxSteps:=999999) (disch:=first|omega|simp<;>omega|rfl) [fJ,oG,oF,hQ7,hQ6,hQ5,hQ4,hQ3,hQ9,kT,hz]
  rw[hT];clear hT;refine o0 λT hT=> ?_;simp(maxSteps:=999999) (disch:=first|omega|simp<;>omega|rfl) [fJ,oG,oF,wu,hmll,c1,c2,c3,c4,c5,c6];by_cases c7:m.ty<0
  ·refine oU true 92 121 (by simp[c7]) (by rw[hT];kernel_rfl) (by rw[hT];kernel_rfl) ?_;have hz:Z=false:=hno2 (by omega);simp(maxSteps:=999999) (disch:=first|omega|simp<;>omega|rfl) [fJ,oG,oF,hQ7,hQ6,hQ5,hQ4,hQ3,hQ9,kT,hz]
  rw[hT];clear hT;refine o0 λT hT=> ?_;simp(maxSteps:=999999) (disch:=first|omega|simp<;>omega|rfl) [fJ,oG,oF,wl,hmll,c1,c2,c3,c4,c5,c6,c7];by_cases c8:31<m.ty
  ·refine oU true 97 121 (by simp[c8]) (by rw[hT];kernel_rfl) (by rw[hT];kernel_rfl) ?_;have hz:Z=false:=hno2 (by omega);simp(maxSteps:=999999) (disch:=first|omega|simp<;>omega|rfl) [fJ,oG,oF,hQ7,hQ6,hQ5,hQ4,hQ3,hQ9,kT,hz]
  rw[hT];clear hT;refine o0 λT hT=> ?_;simp(maxSteps:=999999) (disch:=first|omega|simp<;>omega|rfl) [fJ,oG,oF,v8,hmll,c1,c2,c3,c4,c5,c6,c7,c8];by_cases c9:z7j m.uses 956=m.uses
  rotate_left
  ·refine oU true 105 121 (by simp[c9]) (by rw[hT];kernel_rfl) (by rw[hT];kernel_rfl) ?_;have hz:Z=false:=hno2 (by omega);simp(maxSteps:=999999) (disch:=first|omega|simp<;>omega|rfl) [fJ,oG,oF,hQ7,hQ6,hQ5,hQ4,hQ3,hQ9,kT,hz]
  rw[hT];clear hT;refine o0 λT hT=> ?_;simp(maxSteps:=999999) (disch:=first|omega|simp<;>omega|rfl) [fJ,oG,oF,v6,hmll,c1,c2,c3,c4,c5,c6,c7,c8,c9];by_cases c10:m.beg<0
  ·refine oU true 110 121 (by simp[c10]) (by rw[hT];kernel_rfl) (by rw[hT];kernel_rfl) ?_;have hz:Z=false:=hno2 (by omega);simp(maxSteps:=999999) (disch:=first|omega|simp<;>omega|rfl) [fJ,oG,oF,hQ7,hQ6,hQ5,hQ4,hQ3,hQ9,kT,hz]
  rw[hT];clear hT;refine o0 λT hT=> ?_;simp(maxSteps:=999999) (disch:=first|omega|simp<;>omega|rfl) [fJ,oG,oF,wa,hmll,c1,c2,c3,c4,c5,c6,c7,c8,c9,c10];by_cases c11:m.fin<m.beg
  ·refine oU true 117 121 (by simp[c11]) (by rw[hT];kernel_rfl) (by rw[hT];kernel_rfl) ?_;have hz:Z=false:=hno2 (by omega);simp(maxSteps:=999999) (disch:=first|omega|simp<;>omega|rfl) [fJ,oG,oF,hQ7,hQ6,hQ5,hQ4,hQ3,hQ9,kT,hz]
  rw[hT];clear hT;by_cases c12:1099511627776<m.fin
  ·have hz:Z=false:=hno2 (by omega);simp(maxSteps:=999999) (disch:=first|omega|simp<;>omega|rfl) [fJ,oG,oF,hQ7,hQ6,hQ5,hQ4,hQ3,hQ9,kT,hz,tD,hmll,c1,c2,c3,c4,c5,c6,c7,c8,c9,c10,c11,c12]
  simp(maxSteps:=999999) (disch:=first|omega|simp<;>omega|rfl) [fJ,oG,oF,tD,hmll,c1,c2,c3,c4,c5,c6,c7,c8,c9,c10,c11,c12,hQ7,hQ6,hQ5,hQ4,kF];have hyes:EQ m=true:=hiff.2 (by omega);refine⟨i+1,by omega,⟨by omega,λj hj=> ?_⟩,by omega⟩;rcases hst j hj with h|h
  ·exact he j h
  rw[h,<-hX];exact hyes
 obtain rfl:i=x.made.length:=by omega
 have hall:=z0M he;have hzz:Z=if x.kind=0 then vH x (NU x.time x.mode) else inR x.kind 1 27&&(x.cmd.kind==x.kind)&&(!S5 x.kind||decide (x.cmd.data=[])):=by
  have q1:inR x.time 0 Qw=true:=(BZ _ _ _).2 (by simp only[Qw];omega);have q2:inR x.req 0 NE=true:=(BZ _ _ _).2 (by simp only[NE];omega);have q3:inR x.mode 1 5=true:=(BZ _ _ _).2 (by omega);have q4:decide (x.made.length<=4096)=true:=by simp only[decide_eq_true_eq];omega
  have q5:decide (x.gone.length<=4096)=true:=by simp only[decide_eq_true_eq];omega
  simp only[hZ,okE,q1,q2,q3,q4,q5,hall,Bool.true_and]
 simp(maxSteps:=999999) (disch:=first|omega|simp<;>omega|rfl) [fJ,oG,oF,tT,kF,kT,dT,dF,hQ4,hQ3,e28,hl];have hzp:=GC (nl:=nc) (nl':=none) hx.2.1 C8;have hzq:=AB x.cmd dE nc none;rw[show yP dE none=[i64 0,i64 0,i64 0,i64 0,i64 0,i64 0,st [],.sl .plain none 0 []] from rfl] at hzp hzq;by_cases hk:x.kind=0
 ·rw[if_pos hk] at hzz;have eqz:dk (ks8 16) (bys x.dig) (bys (bF 16))=decide (x.dig=z3X):=vR hd rfl;simp only[t0];rw[qg];refine oI λQ1 hQ1=> ?_;refine yK λB hB=> ?_;simp(maxSteps:=999999) (disch:=first|omega|simp<;>omega|rfl) [fJ,oG,oF,hl,hk];rw[hB];clear hB;rw[bq];refine⟨by simp,λ_=> ?_,λh=>by simp at h⟩;refine yK λB hB=> ?_;simp(maxSteps:=999999) (disch:=first|omega|simp<;>omega|rfl) [fJ,oG,oF,hl,h149,hzp,hzq];rw[hB];clear hB;rw[qg];refine oI λQ2 hQ2=> ?_;rw[ji];refine o0 λT hT=> ?_;simp(maxSteps:=999999) (disch:=first|omega|simp<;>omega|rfl) [fJ,oG,oF,vX,hl,e28,e29,hg,eqz,hd];by_cases d1:x.req=0
  rotate_left
  ·refine oU false 132 2 (by simp[d1]) (by rw[hT];kernel_rfl) (by rw[hT];kernel_rfl) ?_;have hz:Z=false:=by rw[hzz];simp[vH,NU,d1]
   simp(maxSteps:=999999) (disch:=first|omega|simp<;>omega|rfl) [fJ,oG,oF,hQ2,hQ1,hQ9,hz]
  rw[hT];clear hT;refine o0 λT hT=> ?_;simp(maxSteps:=999999) (disch:=first|omega|simp<;>omega|rfl) [fJ,oG,oF,vZ,hl,e28,e29,hg,eqz,hd,d1];by_cases d2:Gk x.cmd dE=true
  rotate_left
  ·refine oU false 135 2 (by simp[d2]) (by rw[hT];kernel_rfl) (by rw[hT];kernel_rfl) ?_;have hz:Z=false:=by rw[hzz];simp[vH,NU,d2]
   simp(maxSteps:=999999) (disch:=first|omega|simp<;>omega|rfl) [fJ,oG,oF,hQ2,hQ1,hQ9,hz]
  rw[hT];clear hT;refine o0 λT hT=> ?_;simp(maxSteps:=999999) (disch:=first|omega|simp<;>omega|rfl) [fJ,oG,oF,wz,hl,e28,e29,hg,eqz,hd,d1,d2];by_cases d3:x.dig=z3X
  rotate_left
  ·refine oU false 141 2 (by simp[d3]) (by rw[hT];kernel_rfl) (by rw[hT];kernel_rfl) ?_;have hz:Z=false:=by rw[hzz];simp[vH,NU,d3]
   simp(maxSteps:=999999) (disch:=first|omega|simp<;>omega|rfl) [fJ,oG,oF,hQ2,hQ1,hQ9,hz]
  rw[hT];clear hT;refine o0 λT hT=> ?_;simp(maxSteps:=999999) (disch:=first|omega|simp<;>omega|rfl) [fJ,oG,oF,wD,hl,e28,e29,hg,eqz,hd,d1,d2,d3];by_cases d4:x.made=[]
  rotate_left
  ·refine oU false 147 2 (by simp[d4]) (by rw[hT];kernel_rfl) (by rw[hT];kernel_rfl) ?_;have hz:Z=false:=by rw[hzz];simp[vH,NU,d4]
   simp(maxSteps:=999999) (disch:=first|omega|simp<;>omega|rfl) [fJ,oG,oF,hQ2,hQ1,hQ9,hz]
  rw[hT];clear hT;by_cases d5:x.gone=[]
  rotate_left
  ·have hz:Z=false:=by rw[hzz];simp[vH,NU,d5]
   simp(maxSteps:=999999) (disch:=first|omega|simp<;>omega|rfl) [fJ,oG,oF,hQ2,hQ1,hQ9,hz,tj,hl,e28,e29,hg,eqz,hd,d1,d2,d3,d4,d5]
  have hz:Z=true:=by rw[hzz];simp[vH,NU,d1,d2,d3,d4,d5,hk]
  simp(maxSteps:=999999) (disch:=first|omega|simp<;>omega|rfl) [fJ,oG,oF,tj,hl,e28,e29,hg,eqz,hd,d1,d2,d3,d4,d5,hQ2,hQ1,hQ9,hz]
 rw[if_neg hk] at hzz;have hp2:=XQ (nl:=nc) hx.2.1;have hq2:=Oj x.cmd nc;have hp3:=GC (nl:=nc) (nl':=nc) hx.2.1 (SF hx.2.1);have hq3:=AB x.cmd (RT x.cmd) nc nc;simp only[t0];rw[qg];refine oI λQ1 hQ1=> ?_;refine yK λB hB=> ?_;simp(maxSteps:=999999) (disch:=first|omega|simp<;>omega|rfl) [fJ,oG,oF,hl,hk];rw[hB];clear hB;rw[bq];refine⟨by simp[hk],λh=>by simp[hk] at h,λ_=> ?_⟩;simp(maxSteps:=999999) (disch:=first|omega|simp<;>omega|rfl) [fJ,oG,oF,hQ1];simp only[wR];refine yK λB hB=> ?_;simp(maxSteps:=999999) (disch:=first|omega|simp<;>omega|rfl) [fJ,oG,oF,hl,h149,h327,hp2,hq2,hp3,hq3];rw[hB];clear hB;rw[qg];refine oI λQ2 hQ2=> ?_;rw[ji];refine o0 λT hT=> ?_;simp(maxSteps:=999999) (disch:=first|omega|simp<;>omega|rfl) [fJ,oG,oF,vW,hl];by_cases d1:1<=x.kind
 rotate_left
 ·refine oU false 162 2 (by simp[d1]) (by rw[hT];kernel_rfl) (by rw[hT];kernel_rfl) ?_;have hz:Z=false:=by rw[hzz];simp[inR,d1]
  simp(maxSteps:=999999) (disch:=first|omega|simp<;>omega|rfl) [fJ,oG,oF,hQ2,hQ9,hz]
 rw[hT];clear hT;refine o0 λT hT=> ?_;simp(maxSteps:=999999) (disch:=first|omega|simp<;>omega|rfl) [fJ,oG,oF,vV,hl,d1];by_cases d2:x.kind<=27
 rotate_left
 ·refine oU false 167 2 (by simp[d2]) (by rw[hT];kernel_rfl) (by rw[hT];kernel_rfl) ?_;have hz:Z=false:=by rw[hzz];simp[inR,d2]
  simp(maxSteps:=999999) (disch:=first|omega|simp<;>omega|rfl) [fJ,oG,oF,hQ2,hQ9,hz]
 rw[hT];clear hT;refine o0 λT hT=> ?_;simp(maxSteps:=999999) (disch:=first|omega|simp<;>omega|rfl) [fJ,oG,oF,wo,hl,d1,d2];by_cases d3:x.cmd.kind=x.kind
 rotate_left
 ·refine oU false 175 2 (by simp[d3]) (by rw[hT];kernel_rfl) (by rw[hT];kernel_rfl) ?_;have hz:Z=false:=by rw[hzz];simp[inR,d3]
  simp(maxSteps:=999999) (disch:=first|omega|simp<;>omega|rfl) [fJ,oG,oF,hQ2,hQ9,hz]
 rw[hT];clear hT;have hz:Z=Gk x.cmd (RT x.cmd):=by rw[hzz,z8b,d3];simp[inR,d1,d2]
 simp(maxSteps:=999999) (disch:=first|omega|simp<;>omega|rfl) [fJ,oG,oF,we,hl,d1,d2,d3,hQ2,hQ9,hz]
def e0R:pm:=⟨0,0,0,0,dE,[],[],[]⟩
def atE(l:List pm)(i:Nat):pm:=l.getD i e0R
theorem P5{l:List pm}{i:Nat}(h:i<l.length):atE l i=l[i]:=by simp[atE,List.getD,List.getElem?_eq_getElem h]
theorem z7x{l:List pm}{i:Nat}(h:i<l.length):atE l i∈l:=by rw[P5 h];exact List.getElem_mem h
def z76(l:List pm)(i:Nat):Bool:=okE (atE l i)&&(decide (i=0)||decide ((atE l (i-1)).time<=(atE l i).time))
def z4ha(l:List pm):Bool:=(List.range l.length).all (z76 l)
def P9(s:Int)(k:Nat)(l:List pm):Bool:=z4ha l&&okP s k&&decide (s<=60000)
def Xb(s:Int)(nr ne:Option Bool)(r:List (List UInt8))(l:List pm):oH:= .agg [i64 s,ur nr r,qn ne l]
structure z4V (s:Int) (r:List (List UInt8)) (l:List pm):Prop where
 hs:inI s
 hr:qm r
 hrl:r.length<=1000000
 he:Bh l
 hn:l.length<=200
def gLs(d:oH):Int:=match d with| .agg (a::_)=>asI a|_=>0
def Qp:aW:=⟨λds=>∃(s:Int) (r:List (List UInt8)) (l:List pm),z4V s r l∧ds=[Xb s none none r l],λds=>bo (P9 (gLs (nth ds 0)) (QU (nth ds 0)).roots.length (QU (nth ds 0)).ents)⟩
theorem ZB{s:Int}{r:List (List UInt8)}{l:List pm}(h:z4V s r l):Qp.pre [Xb s none none r l]=True:=eq_true ⟨s,r,l,h,rfl⟩
theorem OY{s:Int}{r:List (List UInt8)}{l:List pm}(h:z4V s r l):Qp.post [Xb s none none r l]=bo (P9 s r.length l):=by show bo (P9 s (gDs (.sl .plain none r.length (bys (dgs r)))).length (Cr l.length (pS l)))=_;rw[uv h.hr,An h.he]
theorem z1D{l:List pm}{i:Nat}(h:i<l.length)(hn:z76 l i=false):z4ha l=false:=by
 cases hv:z4ha l with
 |false=>rfl
 |true=>have:=List.all_eq_true.1 hv i (List.mem_range.2 h);rw[hn] at this;cases this
theorem XO{l:List pm}(h:∀j<l.length,z76 l j=true):z4ha l=true:=List.all_eq_true.2 λi hi=>h i (List.mem_range.1 hi)
theorem z0N{s:Int}{r:List (List UInt8)}{l:List pm}(h:z4V s r l)(hv:P9 s r.length l=true):0<=s∧lf.ok ⟨s.toNat,r,l⟩∧s<=60000:=by simp only[P9,okP,Bool.and_eq_true,decide_eq_true_eq] at hv;refine⟨hv.1.2.1.1,⟨h.hr,hv.1.2.2,h.he,by have:=h.hn;simp only;omega,?_⟩,hv.2⟩;have:=h.hn;simp only;omega
set_option maxHeartbeats 8000000 in
theorem Xt(E:Env)(h331:E.G 331=PQ)(h211:E.G 211=Lk):∀ds,Qp.pre ds->ds.length=pk.n∧awp E pk.body (qH pk.res (Qp.post ds)) (fP pk.wr ds):=by
 rintro _ ⟨s,r,l,h,rfl⟩;rw[OY h];have hlen:=sd h.he;have hn:=h.hn;have v1:=Gv (nl:=none) h.hs h.hr h.hrl rfl rfl;have v2:=A5 (n:=s) (m:= .plain) (nl:=none) h.hr rfl rfl;unfold Xb ur qn;generalize hQf:qH pk.res (bo (P9 s r.length l))=Qf;simp(maxSteps:=999999) (disch:=first|omega|simp<;>omega|rfl) [fJ,oG,oF,pk];refine oI λQ1 hQ1=> ?_;refine dH (λi:Nat=>⟨[(0,.agg [i64 s,.sl .plain none r.length (bys (dgs r)),.sl .plain none l.length (pS l)])],[(1,.bp 1 0),(6,.sl .plain none l.length (pS l)),(7,i64 l.length),(8,i64 i)],[(1,some [i64 s,.sl .plain none r.length (bys (dgs r)),.sl .plain none l.length (pS l)])]⟩) (λi=>l.length-i) (λi=>i<=l.length∧∀j<i,z76 l j=true) 0 (by simp) (by simp) λi hi=> ?_;obtain⟨hi,hj⟩:=hi;refine oI λQ2 hQ2=> ?_;by_cases c:i<l.length
 ·have hx:=h.he _ (z7x c);have hat:=yO h.he c;rw[<-P5 c] at hat;have hxl:=Bq hx;have p1:PQ.pre [.agg (qf none none none (atE l i))]=True:=Md hx;have p2:PQ.post [.agg (qf none none none (atE l i))]=bo (okE (atE l i)):=Gd hx;have hno:=z1D c;have hst:∀j<i+1,j<i∨j=i:=λj hj=>by omega
  have hpr:0<i->hdA ((pS l).drop ((i-1)*30))=i64 (atE l (i-1)).time:=λh0=>by rw[z2K h.he (show i-1<l.length by omega),P5 (by omega)]
  have hok:z76 l i=(okE (atE l i)&&(decide (i=0)||decide ((atE l (i-1)).time<=(atE l i).time))):=rfl;have hx0:=z6fa none none none (atE l i);generalize hX:atE l i=x at*
  generalize hY:atE l (i-1)=y at*
  have hle2:30<=l.length*30-i*30:=by omega
  have hle3:i*30<=l.length*30:=by omega
  have i1:((i:Int)-1).toNat=i-1:=by omega
  have htk:List.take 30 (qf none none none x)=qf none none none x:=List.take_of_length_le (by omega);have sp:splice (i64 0::i64 0::i64 0::i64 0::i64 0::i64 0::i64 0::i64 0::i64 0::i64 0::st []:: .sl .plain none 0 []::(bys (bF 16)++[.sl (.own 24) none 0 [],.sl (.own 1) none 0 []])) 0 (qf none none none x)=qf none none none x:=z3t rfl hxl;cases b1:okE x with
  |false=>
   have hz:P9 s r.length l=false:=by rw[P9,hno (by rw[hok,b1];rfl)];rfl
   simp(maxSteps:=999999) (disch:=first|omega|simp<;>omega|rfl) [fJ,oG,oF,pU,ra,kT,kF,dT,dF,c,hlen,hat,hxl,htk,hle2,hle3,sp,hQ2,hQ1,h331,p1,p2,b1,pk,<-hQf,hz];skip
  |true=>
   by_cases b2:i=0
   ·subst b2;have hat0:List.take 30 (pS l)=qf none none none x:=by simpa using hat
    have h30:30<=l.length*30:=by omega
    simp(maxSteps:=999999) (disch:=first|omega|simp<;>omega|rfl) [fJ,oG,oF,pU,ra,kT,kF,dT,dF,c,hlen,hat,hxl,htk,hle2,hle3,sp,hQ2,hQ1,h331,p1,p2,b1,hat0,h30];refine⟨1,by omega,⟨by omega,λj hj'=> ?_⟩,by omega⟩;obtain rfl:j=0:=by omega
    rw[hok];simp[b1]
   have b3:0<i:=by omega
   have hy:=hpr b3;by_cases b4:x.time<y.time
   ·have hz:P9 s r.length l=false:=by rw[P9,hno (by rw[hok];simp[b2,b4])];rfl
    simp(maxSteps:=999999) (disch:=first|omega|simp<;>omega|rfl) [fJ,oG,oF,pU,ra,kT,kF,dT,dF,c,hlen,hat,hxl,htk,hle2,hle3,sp,hQ2,hQ1,h331,p1,p2,b1,b3,b4,i1,hy,hx0,pk,<-hQf,hz];exact⟨⟨by omega,by omega⟩,by omega⟩
   simp(maxSteps:=999999) (disch:=first|omega|simp<;>omega|rfl) [fJ,oG,oF,pU,ra,kT,kF,dT,dF,c,hlen,hat,hxl,htk,hle2,hle3,sp,hQ2,hQ1,h331,p1,p2,b1,b3,b4,i1,hy,hx0];refine⟨⟨by omega,by omega⟩,by omega,i+1,by omega,⟨by omega,λj hj'=> ?_⟩,by omega⟩;rcases hst j hj' with h'|rfl
   ·exact hj j h'
   rw[hok];simp[b1,Int.not_lt.1 b4]
 obtain rfl:i=l.length:=by omega
 have hz:z4ha l=true:=XO hj;cases b1:okP s r.length with
 |false=>
  have hz:P9 s r.length l=false:=by rw[P9,b1];simp
  simp(maxSteps:=999999) (disch:=first|omega|simp<;>omega|rfl) [fJ,oG,oF,pU,t6,kT,kF,dT,dF,hQ2,hQ1,pk,<-hQf,h211,v1,v2,hz,b1];skip
 |true=>
  have hz:P9 s r.length l=decide (s<=60000):=by rw[P9,b1,hz];rfl
  simp(maxSteps:=999999) (disch:=first|omega|simp<;>omega|rfl) [fJ,oG,oF,pU,t6,kT,kF,dT,dF,hQ2,hQ1,pk,<-hQf,h211,v1,v2,hz,b1];skip
theorem z9u(E:Env)(h12:E.G 12=gx):∀ds,xu.pre ds->ds.length=vI.n∧awp E vI.body (qH vI.res (xu.post ds)) (fP vI.wr ds):=by
 rintro _ ⟨nl,l,hl,hm,rfl⟩;rw[xu,CO];have hi0:=rJ (n:=l.length) (Jp (by omega));simp(maxSteps:=999999) (disch:=first|omega|simp<;>omega|rfl) [fJ,oG,oF,vI,h12,LW];refine oI λQ0 hQ0=> ?_;refine dH (λi:Nat=>⟨[(0,.sl .plain nl l.length (rD l))],[(3,.sl (.own 1) (some false) (eU l.length++(l.take i).flatMap eU).length (bys (eU l.length++(l.take i).flatMap eU))),(9,.sl .plain nl l.length (rD l)),(10,i64 l.length),(11,i64 i)],[]⟩) (λi=>l.length-i) (· <=l.length) 0 (by simp) (by simp) λi hi=> ?_;refine oI λQ1 hQ1=> ?_;simp(maxSteps:=999999) (disch:=first|omega|simp<;>omega|rfl) [fJ,oG,oF,Fw,-List.length_flatMap];rw[bq];refine⟨by simp,λh1=> ?_,λh1=> ?_⟩<;>simp at h1
 ·have h1':i<l.length:=by omega
  have hs:=rz l eU 0 h1';rw[show l.getD i 0=atI l i from rfl] at hs;obtain⟨g0,g1⟩:=hm _ (Hy h1');have g2:=rJ (hm _ (Hy h1'));have g3:=pM (l:=l.take i) λx hx=>hm x (List.mem_of_mem_take hx);rw[List.length_take] at g3;generalize hF:(l.take i).flatMap eU=F at*
  generalize hX:atI l i=x at*
  simp(maxSteps:=999999) (disch:=first|omega|simp<;>omega|rfl) [fJ,oG,oF,Fv,B6,hX,h12,LW,hQ1,-List.length_flatMap];refine⟨by omega,by omega,by omega,i+1,by omega,by omega,⟨?_,hs.symm⟩,by simp⟩;rw[hs,List.length_append];omega
 have e:i=l.length:=by omega
 subst e;simp(maxSteps:=999999) (disch:=first|omega|simp<;>omega|rfl) [fJ,oG,oF,hQ1,hQ0,Fq,z9la,qF,-List.length_flatMap]
theorem Xy(E:Env)(h30:E.G 30=Kd):∀ds,xw.pre ds->ds.length=qM.n∧awp E qM.body (qH qM.res (xw.post ds)) (fP qM.wr ds):=by
 rintro _ ⟨nl,l,hl,hm,rfl⟩;rw[xw,CO];have hi0:=rJ (n:=l.length) (Jp (by omega));simp(maxSteps:=999999) (disch:=first|omega|simp<;>omega|rfl) [fJ,oG,oF,qM,h30,GJ];refine oI λQ0 hQ0=> ?_;refine dH (λi:Nat=>⟨[(0,.sl .plain nl l.length (rD l))],[(3,.sl (.own 1) none (eU l.length++(l.take i).flatMap eU).length (bys (eU l.length++(l.take i).flatMap eU))),(4,i64 i)],[]⟩) (λi=>l.length-i) (· <=l.length) 0 (by simp) (by simp) λi hi=> ?_;refine oI λQ1 hQ1=> ?_;simp(maxSteps:=999999) (disch:=first|omega|simp<;>omega|rfl) [fJ,oG,oF,xI,-List.length_flatMap];rw[bq];refine⟨by simp,λh1=> ?_,λh1=> ?_⟩<;>simp at h1
 ·have h1':i<l.length:=by omega
  have hs:=rz l eU 0 h1';rw[show l.getD i 0=atI l i from rfl] at hs;obtain⟨g0,g1⟩:=hm _ (Hy h1');have g2:=rJ (hm _ (Hy h1'));have g3:=pM (l:=l.take i) λx hx=>hm x (List.mem_of_mem_take hx);rw[List.length_take] at g3;generalize hF:(l.take i).flatMap eU=F at*
  generalize hX:atI l i=x at*
  simp(maxSteps:=999999) (disch:=first|omega|simp<;>omega|rfl) [fJ,oG,oF,xH,B6,hX,h30,GJ,hQ1,-List.length_flatMap];refine⟨by omega,by omega,by omega,i+1,by omega,by omega,⟨?_,hs.symm⟩,by simp⟩;rw[hs,List.length_append];omega
 have e:i=l.length:=by omega
 subst e;simp(maxSteps:=999999) (disch:=first|omega|simp<;>omega|rfl) [fJ,oG,oF,hQ1,hQ0,xT,z9la,qF,-List.length_flatMap]
end Go.Abs