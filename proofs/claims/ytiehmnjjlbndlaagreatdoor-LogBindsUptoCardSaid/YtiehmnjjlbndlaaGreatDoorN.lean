/- Lemmas. -/
import Derived.Test.YtiehmnjjlbndlaaGreatDoorM
set_option linter.all false
namespace Go.Abs
set_option maxRecDepth 100000
def hdO(pr:List (List UInt8)):Option (List UInt8×List (List UInt8)):=match pr with|[]=>none|x::p=>some (x,p)
def vS(D:List Bool)(w:Bool)(old:List UInt8)(pr:List (List UInt8)):Option (List UInt8×List (List UInt8)):=
 if w=true∧D.all (! ·)=true then some (old,pr) else hdO pr
theorem z5B(D:List Bool)(old:List UInt8)(pr:List (List UInt8)):vS D true old pr=vpS D old pr:=by unfold vS vpS;cases D.all (! ·)<;>simp;cases pr<;>rfl
theorem z3n(a b:List UInt8):bh 2 [a,b]=nd a b:=rfl
def Gt(D:List Bool)(w:Bool)(old:List UInt8)(pr:List (List UInt8))(u v:List UInt8)(ok:Bool):Prop:=
 match vS D w old pr with
 |none=>ok=false
 |some (x,r)=>ok=decide (r.length=D.length)∧(r.length=D.length->u=(uG (D.reverse.zip r) x x).1∧v=(uG (D.reverse.zip r) x x).2)
theorem Jy{D:List Bool}{w w' b:Bool}{old x u v u' v':List UInt8}{pr:List (List UInt8)}{ok:Bool}(hw:(w'=true∧(b::D).all (! ·)=true)↔(w=true∧D.all (! ·)=true))(h:Gt D w old pr u v ok)
  (hu:u'=if b then nd x u else u) (hv:v'=if b then nd x v else nd v x):Gt (b::D) w' old (pr++[x]) u' v' ok:=by
 have key:∀(z:List UInt8) (r:List (List UInt8)),(ok=decide (r.length=D.length)∧(r.length=D.length->u=(uG (D.reverse.zip r) z z).1∧v=(uG (D.reverse.zip r) z z).2))->
   ok=decide ((r++[x]).length=(b::D).length)∧((r++[x]).length=(b::D).length->u'=(uG ((b::D).reverse.zip (r++[x])) z z).1∧v'=(uG ((b::D).reverse.zip (r++[x])) z z).2):=λz r hr=>by
  have hl:(r++[x]).length=(b::D).length↔r.length=D.length:=by simp
  refine⟨?_,λh=> ?_⟩
  ·simp only[hl];exact hr.1
  have hrl:=hl.1 h;obtain⟨k1,k2⟩:=hr.2 hrl;rw[List.reverse_cons,RC _ _ _ _ (by simp[hrl]),E3,hu,hv,<-k1,<-k2];cases b<;>simp
 unfold Gt at h⊢;by_cases hc:w=true∧D.all (! ·)=true
 ·have e1:vS D w old pr=some (old,pr):=if_pos hc;have e2:vS (b::D) w' old (pr++[x])=some (old,pr++[x]):=if_pos (hw.2 hc);rw[e1] at h;rw[e2];exact key old pr h
 have e1:vS D w old pr=hdO pr:=if_neg hc;have e2:vS (b::D) w' old (pr++[x])=hdO (pr++[x]):=if_neg (λh=>hc (hw.1 h));rw[e1] at h;rw[e2];cases pr with
 |nil=>have h':ok=false:=h;refine⟨?_,λhl=>by simp at hl⟩;simp[h']
 |cons z r=>exact key z r h
theorem JM(old:List UInt8):∀(q:List (List UInt8)) (m n:Nat) (w:Bool),1<=m->m<=n->Gt (dpd m n) w old q.reverse (rQ m n w old q).1 (rQ m n w old q).2.1 (rQ m n w old q).2.2
 |[],m,n,w,h1,h2=>by
  rw[rQ];by_cases hw:m=n∧w=true
  ·rw[if_pos hw,Hs (by omega)];unfold Gt;rw[show vS [] w old [].reverse=some (old,[]) from if_pos ⟨hw.2,rfl⟩];exact⟨rfl,λ_=>⟨rfl,rfl⟩⟩
  rw[if_neg hw];unfold Gt;by_cases hc:w=true∧(dpd m n).all (! ·)=true
  ·rw[show vS (dpd m n) w old [].reverse=some (old,[]) from if_pos hc];have hlt:m<n:=by
    rcases Nat.lt_or_ge m n with h|h
    ·exact h
    exact absurd ⟨by omega,hc.1⟩ hw
   have hd:(dpd m n).length≠0:=by rw[MN ⟨h1,hlt⟩];split<;>simp
   refine⟨?_,λh=>absurd h.symm hd⟩;rw[decide_eq_false (λh=>hd h.symm)]
  rw[show vS (dpd m n) w old [].reverse=none from if_neg hc]
 |x::q,m,n,w,h1,h2=>by
  rw[rQ,List.reverse_cons];by_cases hw:m=n∧w=true
  ·rw[if_pos hw,Hs (by omega)];unfold Gt;rw[show vS [] w old (q.reverse++[x])=some (old,q.reverse++[x]) from if_pos ⟨hw.2,rfl⟩];exact⟨by simp,λh=>by simp at h⟩
  rw[if_neg hw];by_cases he:m=n
  ·have hwf:w=false:=by
    cases w with
    |false=>rfl
    |true=>exact absurd ⟨he,rfl⟩ hw
   rw[if_pos he,Hs (by omega),hwf];unfold Gt;cases hq:q.reverse with
   |nil=>rw[List.reverse_eq_nil_iff.1 hq];exact⟨rfl,λ_=>⟨rfl,rfl⟩⟩
   |cons z r=>
    have hne:q≠[]:=by intro h;rw[h] at hq;cases hq
    refine⟨?_,λh=>by simp at h⟩;simp[hne]
  have hlt:m<n:=by omega
  have hs:=kK (n:=n) (by omega);have hs1:=yl n;rw[if_neg he,MN ⟨h1,hlt⟩];by_cases hc:m<=spl n
  ·rw[if_pos hc,if_pos hc];have ih:=JM old q m (spl n) w h1 hc;generalize rQ m (spl n) w old q=T at ih⊢;obtain⟨u,v,ok⟩:=T;simp only[z3n] at ih⊢;exact Jy (b:=false) (by simp) ih (by simp) (by simp)
  rw[if_neg hc,if_neg hc];have ih:=JM old q (m-spl n) (n-spl n) false (by omega) (by omega);generalize rQ (m-spl n) (n-spl n) false old q=T at ih⊢;obtain⟨u,v,ok⟩:=T;simp only[z3n] at ih⊢;exact Jy (b:=true) (by simp) ih (by simp) (by simp)
theorem Re{old root:List UInt8}{m n:Nat}(h1:1<=m)(h2:m<=n)(p:List (List UInt8)):vpN old root m n p=((rQ m n true old p.reverse).2.2&&decide ((rQ m n true old p.reverse).1=old)&&decide ((rQ m n true old p.reverse).2.1=root)):=by
 have h:=JM old p.reverse m n true h1 h2;rw[List.reverse_reverse] at h;unfold Gt at h;rw[z5B] at h;have hc:(1:Int)<=(m:Int)∧(m:Int)<=(n:Int):=by omega
 rw[vpN,if_pos hc,Int.toNat_natCast,Int.toNat_natCast];generalize rQ m n true old p.reverse=t at*
 cases hv:vpS (dpd m n) old p with
 |none=>rw[hv] at h;simp only at h⊢;rw[h];rfl
 |some xr=>
  obtain⟨x,r⟩:=xr;rw[hv] at h;simp only at h⊢;obtain⟨k1,k2⟩:=h;unfold vpE;by_cases hl:r.length=(dpd m n).length
  ·obtain⟨k3,k4⟩:=k2 hl;rw[if_pos hl,k1,decide_eq_true hl,k3,k4,Bool.true_and]
  rw[if_neg hl,k1,decide_eq_false hl];rfl
set_option maxHeartbeats 8000000 in
theorem z7ba(E:Env)(h205:E.G 205=GS):∀ds,RX.pre ds->ds.length=oZ.n∧awp E oZ.body (qH oZ.res (RX.post ds)) (fP oZ.wr ds):=by
 rintro _ ⟨old,root,m,n,nl,p,ho,hr,hn,hp,hpl,rfl⟩;rw[ur,GQ hp];have tko:=oM ho;have tkr:=oM hr;by_cases g0:m<1
 ·rw[vpN,if_neg (by omega)];simp(maxSteps:=999999) (disch:=first|omega|simp<;>omega|rfl) [fJ,oG,oF,oZ,kT,kF,dT,dF,g0,ho,hr]
 by_cases g1:n<m
 ·rw[vpN,if_neg (by omega)];simp(maxSteps:=999999) (disch:=first|omega|simp<;>omega|rfl) [fJ,oG,oF,oZ,kT,kF,dT,dF,g0,g1,ho,hr]
 obtain⟨a,rfl⟩:=Int.eq_ofNat_of_zero_le (show 0<=m by omega);obtain⟨b,rfl⟩:=Int.eq_ofNat_of_zero_le (show 0<=n by omega);rw[Re (show 1<=a by omega) (by omega)];have c1:=Es (w:=true) (nl:=nl) ho (show 1<=a by omega) (show a<=b by omega) (by omega) hp hpl rfl rfl;have c2:=EW (old:=old) (m:=a) (n:=b) (w:=true) (md:= .plain) (nl:=nl) hp rfl rfl;rw[NS] at c2;obtain⟨t1,t2⟩:=GU old ho p.reverse a b true (E1 hp);have zl:=wL Qo PT;generalize rQ a b true old p.reverse=T at*
 have g2:=wL t1 t2;have g3:=PE t1;have g4:=LZ t1 t2;have g5:=LE t1 t2;have g6:=List.take_of_length_le (Nat.le_of_eq g2);have eq1:=vR t1 ho;have eq2:=vR t2 hr;obtain⟨u,v,ok⟩:=T;simp only at*
 cases ok with
 |false=>simp(maxSteps:=999999) (disch:=first|omega|simp<;>omega|rfl) [fJ,oG,oF,oZ,qy,w6,kT,kF,dT,dF,g0,g1,ho,hr,tko,tkr,h205,c1,c2,zl,g2,g3,g4,g5,g6,oJ]
 |true=>
  by_cases hu:u=old
  ·rw[decide_eq_true hu] at eq1⊢;simp(maxSteps:=999999) (disch:=first|omega|simp<;>omega|rfl) [fJ,oG,oF,oZ,qy,w6,kT,kF,dT,dF,g0,g1,ho,hr,tko,tkr,h205,c1,c2,zl,g2,g3,g4,g5,g6,oJ,eq1,eq2,t1,t2];skip
  rw[decide_eq_false hu] at eq1⊢;simp(maxSteps:=999999) (disch:=first|omega|simp<;>omega|rfl) [fJ,oG,oF,oZ,qy,w6,kT,kF,dT,dF,g0,g1,ho,hr,tko,tkr,h205,c1,c2,zl,g2,g3,g4,g5,g6,oJ,eq1,eq2,t1,t2];skip
structure Cmd where
 kind:Int
 key:Int
 other:Int
 type:Int
 uses:Int
 life:Int
 data:List UInt8
 list:List Int
def Cmd.ok(c:Cmd):Prop:=aO c.kind∧aO c.key∧aO c.other∧aO c.type∧aO c.uses∧aO c.life∧∀x∈c.list,aO x
def yP(c:Cmd)(nl:Option Bool):List oH:=[i64 c.kind,i64 c.key,i64 c.other,i64 c.type,i64 c.uses,i64 c.life,st c.data,.sl .plain nl c.list.length (rD c.list)]
def SU(l:List oH):Cmd:=⟨asI (nth l 0),asI (nth l 1),asI (nth l 2),asI (nth l 3),asI (nth l 4),asI (nth l 5),gS (nth l 6),gIs (gCs (nth l 7))⟩
@[simp] theorem Ou(c:Cmd)(nl:Option Bool):SU (yP c nl)=c:=by simp[SU,yP,nth]
def dE:Cmd:=⟨0,0,0,0,0,0,[],[]⟩
def gg(x y:Int):Int:=IntKind.i64.wrap (BitVec.ofInt 64 x&&& ~~~BitVec.ofInt 64 y).toNat
@[simp] theorem dO(x y:Int):aE .andNot (i64 x) (i64 y)=i64 (gg x y):=rfl
@[simp] theorem fB(x y:Int):oV .andNot (i64 x) (i64 y)=True:=by simp[oV,i64,-dm]
@[simp] theorem z4w(x y:Int):oV .and (i64 x) (i64 y)=True:=by simp[oV,i64,-dm]
def Jr(n:Int):Bool:=gg n 956==0
def six(c:Cmd):List Int:=[c.kind,c.key,c.other,c.type,c.uses,c.life]
def G0(c:Cmd):List UInt8:=(six c).flatMap eU++(mX c.data++qF c.list)
def nG:Nat->List UInt8->List Int×List UInt8×Nat
 |0,b=>([],b,0)
 |n+1,b=>if(co b).2.2≠0 then([],b,(co b).2.2) else((co b).1::(nG n (b.drop (co b).2.1)).1,(nG n (b.drop (co b).2.1)).2)
def aft(b:List UInt8)(n e:Nat):List UInt8:=if e=0 then b.drop n else b
def Cmd.small(c:Cmd):Prop:=c.ok∧c.data.length<=100000000∧c.list.length<=100000000
def bls(ps:List (Option Bool×List UInt8)):List oH:=ps.map λp=> .sl (.own 1) p.1 p.2.length (bys p.2)
def z3k(ps:List (Option Bool×List UInt8)):Nat:=(ps.map λp=>p.2.length).sum
def z5m(l:List oH):List UInt8:=l.flatMap λd=>gBs (gCs d)
def mdA(b:Bool):cH:=if b then .own 1 else .plain
def mls(ps:List (Bool×Option Bool×List UInt8)):List oH:=ps.map λp=> .sl (mdA p.1) p.2.1 p.2.2.length (bys p.2.2)
def uS:aW:=⟨λds=>∃(nl:Option Bool) (ps:List (Bool×Option Bool×List UInt8)),z3k (ps.map (·.2))<=10000000000∧ps.length<=10000000000∧ds=[.sl .plain nl ps.length (mls ps)],λds=> .sl (.own 1) none (z5m (gCs (nth ds 0))).length (bys (z5m (gCs (nth ds 0))))⟩
def N4:aW:=⟨λds=>∃n:Nat,n<=10000000000∧ds=[.sl .plain (some true) 0 [],i64 n],λ_=> .sl (.own 1) none 0 []⟩
def Hh:aW:=⟨λds=>∃(c:Cmd) (nl:Option Bool),c.small∧ds=[.agg (yP c nl)],λds=> .sl (.own 1) none (G0 (SU (gCs (nth ds 0)))).length (bys (G0 (SU (gCs (nth ds 0)))))⟩
def Gk(c d:Cmd):Bool:=c.kind==d.kind&&c.key==d.key&&c.other==d.other&&c.type==d.type&&c.uses==d.uses&&c.life==d.life&&c.data==d.data&&c.list==d.list
def BQ:aW:=⟨λds=>∃(c d:Cmd) (nl nl':Option Bool),c.small∧d.small∧ds=[.agg (yP c nl),.agg (yP d nl')],λds=>bo (Gk (SU (gCs (nth ds 0))) (SU (gCs (nth ds 1))))⟩
def nv(l:List Int)(d:List UInt8)(ls:List Int):Cmd:=⟨atI l 0,atI l 1,atI l 2,atI l 3,atI l 4,atI l 5,d,ls⟩
def setN(c:Cmd)(l:List Int):Cmd:=nv (l++(six c).drop l.length) c.data c.list
theorem So{c:Cmd}{nl:Option Bool}(h:c.small):Hh.pre [.agg (yP c nl)]=True:=eq_true ⟨c,nl,h,rfl⟩
@[simp] theorem F6(c:Cmd)(nl:Option Bool):Hh.post [.agg (yP c nl)]= .sl (.own 1) none (G0 c).length (bys (G0 c)):=by simp[Hh]
theorem GC{c d:Cmd}{nl nl':Option Bool}(h:c.small)(h':d.small):BQ.pre [.agg (yP c nl),.agg (yP d nl')]=True:=eq_true ⟨c,d,nl,nl',h,h',rfl⟩
@[simp] theorem AB(c d:Cmd)(nl nl':Option Bool):BQ.post [.agg (yP c nl),.agg (yP d nl')]=bo (Gk c d):=by simp[BQ]
@[simp] theorem z7ma(ps:List (Option Bool×List UInt8)):z5m (bls ps)=ps.flatMap (·.2):=by
 induction ps with
 |nil=>rfl
 |cons p ps ih=>simp only[z5m,bls,List.map_cons,List.flatMap_cons] at ih⊢;rw[ih];simp
theorem z7s(ps:List (Option Bool×List UInt8)):bls ps=mls (ps.map λp=>(true,p)):=by rw[bls,mls,List.map_map];rfl
theorem Z3(ps:List (Bool×Option Bool×List UInt8)):z5m (mls ps)=ps.flatMap (·.2.2):=by
 induction ps with
 |nil=>rfl
 |cons p ps ih=>simp only[z5m,mls,List.map_cons,List.flatMap_cons] at ih⊢;rw[ih];simp[gCs]
theorem FI{nl:Option Bool}{n:Nat}{ps:List (Bool×Option Bool×List UInt8)}(h:z3k (ps.map (·.2))<=10000000000)(h':ps.length<=10000000000)(hn:n=ps.length):uS.pre [.sl .plain nl n (mls ps)]=True:=eq_true ⟨nl,ps,h,h',by rw[hn]⟩
theorem Ei(nl:Option Bool)(n:Nat)(ps:List (Bool×Option Bool×List UInt8)):uS.post [.sl .plain nl n (mls ps)]= .sl (.own 1) none (ps.flatMap (·.2.2)).length (bys (ps.flatMap (·.2.2))):=by show oH.sl (.own 1) none (z5m (mls ps)).length (bys (z5m (mls ps)))=_;rw[Z3]
theorem Ts{nl:Option Bool}{n:Nat}{ps:List (Option Bool×List UInt8)}(h:z3k ps<=10000000000)(h':ps.length<=10000000000)(hn:n=ps.length):uS.pre [.sl .plain nl n (bls ps)]=True:=by rw[z7s];refine FI ?_ (by simpa using h') (by simpa using hn);rw[List.map_map,show((λx:Bool×Option Bool×List UInt8=>x.2)∘λp:Option Bool×List UInt8=>(true,p))=id from rfl,List.map_id];exact h
@[simp] theorem PV(nl:Option Bool)(n:Nat)(ps:List (Option Bool×List UInt8)):uS.post [.sl .plain nl n (bls ps)]= .sl (.own 1) none (ps.flatMap (·.2)).length (bys (ps.flatMap (·.2))):=by simp[uS]
theorem z9h{n:Int}(h0:0<=n)(h:n<=10000000000):N4.pre [.sl .plain (some true) 0 [],i64 n]=True:=eq_true ⟨n.toNat,by omega,by rw[show((n.toNat:Nat):Int)=n by omega]⟩
@[simp] theorem z66(ds:List oH):N4.post ds= .sl (.own 1) none 0 []:=rfl
theorem GG(bs:List Nat)(bx:Nat->Option (List oH))(f:Nat)(x y:List oH):aG bs bx (.fn f x y)=((∀v∈x,aU bs bx v)∧(∀v∈y,aU bs bx v)):=rfl
def AU:av:=
 Yu [1,3,18,19] [YM 22 3,Ym 23 5,Yk 24 12 23,YN 25 1 1 22 24,YM 3 25]
def AK:av:=
 Yq (.block 1 (Yr [1,3,5,18,19] [Yo 21 (.idxA none 1 6 (.s 18) (.s 19)),Ym 5 21] AU)) (Yu [1,3,18,19] [YB 26 .add 19 1,Ym 19 26])
def vT:av:=
 Yq (Yd 20 (Yy [1,3,18,19]) (YY [1,3])) AK
def vQ:av:=
 Yr [1,3,18,19,20] [YB 20 .lss 19 6] vT
def AZ:av:=
 .block 0 (.loop vQ)
def Bi:av:=
 YR [2] [.norm [1]] [YM 27 3,Yf 28 6 1,Yl 29 1 28,Yk 30 7 29,Yf 31 7 1,Yl 32 1 31,Yk 33 39 32,Yo 34 (.buildSl 1 3 [.sl .plain none 0 [],.sl .plain none 0 [],.sl .plain none 0 []] [(0,1,.s 27),(1,1,.s 30),(2,1,.s 33)]),Yk 35 129 34,YM 2 35] .ret
def AS:av:=
 Yq (YR [1,3,18,19] [.norm [1]] [Yf 6 0 1,Yl 7 1 6,Yf 8 1 1,Yl 9 1 8,Yf 10 2 1,Yl 11 1 10,Yf 12 3 1,Yl 13 1 12,Yf 14 4 1,Yl 15 1 14,Yf 16 5 1,Yl 17 1 16,Yo 18 (.build [i64 0,i64 0,i64 0,i64 0,i64 0,i64 0] [(0,1,.s 7),(1,1,.s 9),(2,1,.s 11),(3,1,.s 13),(4,1,.s 15),(5,1,.s 17)]),Yc 19 0] AZ) Bi
def AY:av:=
 Yr [1,3] [Yv 3 1] AS
def sc:nH:=
 {n:=1,wr:=[],res:=[.t 2],body:=YR [1] [.norm [1]] [Yx 1 1 8 0,Yv 2 1] AY}
def qq:av:=
 YR [4] [.norm [2,3]] [Yf 11 0 2,Yl 12 2 11,Yf 13 0 3,Yl 14 3 13,Yb 15 .eql 12 14,Ym 16 15,YG 16 (Yf 17 1 2),YG 16 (Yl 18 2 17),YG 16 (Yf 19 1 3),YG 16 (Yl 20 3 19),YG 16 (Yb 21 .eql 18 20),Yp 22 16 21,Ym 23 22,YG 23 (Yf 24 2 2),YG 23 (Yl 25 2 24),YG 23 (Yf 26 2 3),YG 23 (Yl 27 3 26),YG 23 (Yb 28 .eql 25 27),Yp 29 23 28,Ym 30 29,YG 30 (Yf 31 3 2),YG 30 (Yl 32 2 31),YG 30 (Yf 33 3 3),YG 30 (Yl 34 3 33),YG 30 (Yb 35 .eql 32 34),Yp 36 30 35,Ym 37 36,YG 37 (Yf 38 4 2),YG 37 (Yl 39 2 38),YG 37 (Yf 40 4 3),YG 37 (Yl 41 3 40),YG 37 (Yb 42 .eql 39 41),Yp 43 37 42,Ym 44 43,YG 44 (Yf 45 5 2),YG 44 (Yl 46 2 45),YG 44 (Yf 47 5 3),YG 44 (Yl 48 3 47),YG 44 (Yb 49 .eql 46 48),Yp 50 44 49,Ym 51 50,YG 51 (Yf 52 6 2),YG 51 (Yl 53 2 52),YG 51 (Yf 54 6 3),YG 51 (Yl 55 3 54),YG 51 (Yb 56 .eql 53 55),Yp 57 51 56,Ym 58 57,YG 58 (Ym 59 5),YG 58 (Ym 60 6),YG 58 (YK 61 132 59 60),Yp 62 58 61,Ym 4 62] .ret
def CT:av:=
 YR [2,3,5,6] [.norm [2,3]] [Yf 7 7 2,Yl 8 2 7,Yf 9 7 3,Yl 10 3 9,YM 5 8,YM 6 10] qq
def sY:nH:=
 {n:=2,wr:=[],res:=[.t 4],body:=YR [2,3] [.norm [2,3]] [Yx 2 2 8 0,Yx 3 3 8 1,Yw 4 false] CT}
def BD:av:=
 Yd 20 (Yu [3,9,10,11] [Yo 21 .unsup,YO .unsup]) (Yy [3,9,10,11])
def BM:av:=
 Yr [3,9,10,11,20] [Ym 19 3,YB 20 .lss 19 0] BD
def By:av:=
 Yr [3,9,10,11] [Ym 15 3,YM 16 5,Yn 17 16,Yb 18 .add 15 17,Ym 3 18] BM
def BR:av:=
 Yq (.block 1 (Yr [3,5,9,10,11] [Yi 13 1 9 11,Yj 14 13,YM 5 14] By)) (Yu [3,9,10,11] [YB 22 .add 11 1,Ym 11 22])
def wY:av:=
 Yq (Yd 12 (Yy [3,9,10,11]) (YY [3])) BR
def xe:av:=
 Yr [3,9,10,11,12] [Yb 12 .lss 11 10] wY
def BV:av:=
 .block 0 (.loop xe)
def AI:av:=
 Yu [6,25,26,27] [YM 31 6,YM 32 8,YN 33 1 1 31 32,YM 6 33]
def Bb:av:=
 Yq (.block 3 (Yr [6,8,25,26,27] [Yi 29 1 25 27,Yj 30 29,YM 8 30] AI)) (Yu [6,25,26,27] [YB 34 .add 27 1,Ym 27 34])
def vG:av:=
 Yq (Yd 28 (Yy [6,25,26,27]) (.ghost (.keep [6]) (.exit 2))) Bb
def xi:av:=
 Yr [6,25,26,27,28] [Yb 28 .lss 27 26] vG
def Ba:av:=
 .block 2 (.loop xi)
def A3:av:=
 Yr [2] [YM 35 6,YM 2 35] .ret
def Bz:av:=
 Yq (Yr [6,25,26,27] [Ym 25 0,Yn 26 25,Yc 27 0] Ba) A3
def BK:av:=
 Yr [6] [Ym 23 3,Yo 24 (.call 139 [.c (.lit (.slice none 0 0)),.s 23] []),YM 6 24] Bz
def BG:av:=
 Yq (Yr [3,9,10,11] [Ym 9 0,Yn 10 9,Yc 11 0] BV) BK
def Bx:av:=
 Yr [3] [Yc 3 0] BG
def sA:nH:=
 {n:=1,wr:=[],res:=[.t 2],body:=Yr [] [Yv 2 1] Bx}
def yp:av:=
 Yd 10 (Yr [4] [Yw 4 false] .ret) (Yy [])
def yG:av:=
 Yd 24 (Yr [4] [Yw 4 false] .ret) (Yy [12,13])
def yn:av:=
 Yr [12,13,24] [Ym 16 0,Ym 17 5,Yi 18 1 16 17,Yj 19 18,Ym 20 1,Ym 21 5,Yi 22 1 20 21,Yj 23 22,Yb 24 .neq 19 23] yG
def yh:av:=
 Yq (.block 1 (Yr [5,12,13] [Ym 15 13,Ym 5 15] yn)) (Yu [12,13] [YB 25 .add 13 1,Ym 13 25])
def u0:av:=
 Yq (Yd 14 (Yy [12,13]) (YY [])) yh
def uZ:av:=
 Yr [12,13,14] [Yb 14 .lss 13 12] u0
def CN:av:=
 .block 0 (.loop uZ)
def Cs:av:=
 Yr [4] [Yw 4 true] .ret
def Cz:av:=
 Yq (Yr [12,13] [Ym 11 0,Yn 12 11,Yc 13 0] CN) Cs
def yk:av:=
 Yq (Yr [10] [Ym 6 0,Yn 7 6,Ym 8 1,Yn 9 8,Yb 10 .neq 7 9] yp) Cz
def sq:nH:=
 {n:=2,wr:=[],res:=[.t 4],body:=Yr [] [Yw 4 false] yk}
@[simp] theorem gC9(a b c d e f:Int)(s:List UInt8)(nl:Option Bool)(n:Nat)(l:List Int)(x:oH):SU [i64 a,i64 b,i64 c,i64 d,i64 e,i64 f,st s,.sl .plain nl n (rD l),x]=⟨a,b,c,d,e,f,s,l⟩:=by simp[SU,nth]
def dig(c:UInt8):UInt8:=at8 [48,49,50,51,52,53,54,55,56,57,97,98,99,100,101,102] c.toNat
def z2Ba(pre:List oH->Prop):aW:=⟨pre,λ_=>bo true⟩
def Qa:aW:=z2Ba λds=>ds=[]
@[simp] theorem z6xa:Qa.pre []=True:=eq_true rfl
@[simp] theorem z9oa(ds:List oH):Qa.post ds=bo true:=rfl
theorem Ue{n:Nat}(h0:n≠0)(h1:n<256):bW n=[UInt8.ofNat n]:=by rw[bu h0,Nat.div_eq_of_lt h1,ue]
theorem dig1:bW 1=[1]:=Ue (by decide) (by decide)
theorem dig2:bW 2=[2]:=Ue (by decide) (by decide)
theorem enc0:eU 0=[128]:=by simp[eU,mag,flp,ue]
theorem z4sa:eU 1=[129,1]:=by simp[eU,mag,flp,dig1]
theorem z4Ba:eU 2=[129,2]:=by simp[eU,mag,flp,dig2]
theorem z6sa:eU (-1)=[127]:=by simp[eU,mag,flp,ue]
def exD:List UInt8:=[1,2,0,0,0,0,0,0,0,0,0,0,0,0,0,0]
theorem x1:co [130,1,0,9]=(256,3,0):=by decide
theorem x2:co [130,1]=(0,0,5):=by decide
theorem x3:co [129,0]=(0,0,6):=by decide
theorem x4:z4W [129,2,97,98,7]=([97,98],4,0):=by decide
theorem x5:ol co 1 [129,2,129,1,127]=([1,-1],5,0):=by decide
theorem x6:z4ja (z6aa 1 exD)=(exD,18,0):=by rw[z6aa,show((1:Nat):Int)=1 from rfl,z4sa];decide
theorem x7:ol z4W 1 [129,2,128,129,1,97,5]=([[],[97]],6,0):=by decide
theorem x8:z23 [[],[97]]=[129,2,128,129,1,97]:=by simp[z23,mX,enc0,z4sa,z4Ba]
theorem x9:mX [97,98]=[129,2,97,98]:=by simp[mX,z4Ba]
theorem x10:qF [1,-1]=[129,2,129,1,127]:=by simp[qF,z4sa,z4Ba,z6sa]
theorem f1(x:UInt8):[u8 x]=bys [x]:=rfl
theorem f2(x:UInt8)(l:List UInt8):u8 x::bys l=bys (x::l):=rfl
theorem f3(x:List UInt8):[st x]=sts [x]:=rfl
theorem f4(x:List UInt8)(l:List (List UInt8)):st x::sts l=sts (x::l):=rfl
theorem f5(x:Int):[i64 x]=rD [x]:=rfl
theorem f6(x:Int)(l:List Int):i64 x::rD l=rD (x::l):=rfl
theorem WA{n s:Nat}(hn:n<=9223372036854775807)(hs:0<s){r:List UInt8}(h:n*s<=r.length):z6k (eU n++r) s=0∧co (eU n++r)=((n:Int),(eU n).length,0):=by have hg:=ML (Jp hn) r;refine⟨?_,hg⟩;unfold z6k;rw[hg];simp only[ne_eq,not_true_eq_false,if_false,Int.toNat_natCast,List.length_append,Nat.add_sub_cancel_left];rw[if_neg (by omega),if_neg];rw[Nat.not_lt,Nat.le_div_iff_mul_le hs];exact h
theorem z6f{s:List UInt8}(h:s.length<=9223372036854775807)(r:List UInt8):z4W (mX s++r)=(s,(mX s).length,0):=by obtain⟨h1,h2⟩:=WA h (s:=1) (by decide) (r:=s++r) (by simp);rw[mX,List.append_assoc,z4W,if_pos h1,h2];simp only[Int.toNat_natCast,List.drop_left,List.take_left,List.length_append]
theorem RB{α:Type}{f:List UInt8->α×Nat×Nat}{enc:α->List UInt8}:∀(l:List α) (p r:List UInt8),(∀x∈l,∀r,f (enc x++r)=(x,(enc x).length,0))->
  z1l f l.length (p++(l.flatMap enc++r)) p.length=(l,p.length+(l.flatMap enc).length,0)
 |[],p,r,_=>by simp[z1l]
 |x::l,p,r,h=>by
  have h1:=h x (by simp) (l.flatMap enc++r);have ih:=RB l (p++enc x) r λy hy=>h y (by simp[hy]);have e:p++((x::l).flatMap enc++r)=(p++enc x)++(l.flatMap enc++r):=by simp
  have e2:(p++((x::l).flatMap enc++r)).drop p.length=enc x++(l.flatMap enc++r):=by rw[List.drop_left];simp
  rw[List.length_append] at ih;rw[List.length_cons,z1l,e2,h1];simp only[ne_eq,not_true_eq_false,if_false];rw[e,ih];simp only[ne_eq,not_true_eq_false,if_false,List.flatMap_cons,List.length_append,Prod.mk.injEq,and_true,true_and];omega
theorem QY{α:Type}{enc:α->List UInt8}(h:∀x,0<(enc x).length):∀l:List α,l.length<=(l.flatMap enc).length
 |[]=>by simp
 |x::l=>by have:=QY h l;have:=h x;simp only[List.flatMap_cons,List.length_append,List.length_cons];omega
theorem z0c(n:Int):0<(eU n).length:=by simp[eU]
theorem Wb{α:Type}{f:List UInt8->α×Nat×Nat}{enc:α->List UInt8}{l:List α}(hp:∀x,0<(enc x).length)(hl:l.length<=9223372036854775807)(h:∀x∈l,∀r,f (enc x++r)=(x,(enc x).length,0))(r:List UInt8):
  ol f 1 (eU l.length++l.flatMap enc++r)=(l,(eU l.length++l.flatMap enc).length,0):=by
 have h0:=QY hp l;obtain⟨h1,h2⟩:=WA hl (s:=1) (by decide) (r:=l.flatMap enc++r) (by simp only[List.length_append];omega);rw[List.append_assoc,ol,if_pos h1,h2,Int.toNat_natCast,RB l (eU l.length) r h,List.length_append]
theorem VW{l:List Int}(hl:l.length<=9223372036854775807)(h:∀x∈l,aO x)(r:List UInt8):ol co 1 (qF l++r)=(l,(qF l).length,0):=
 Wb z0c hl (λx hx r=>ML (h x hx) r) r
def gok(t:Bool)(p:Prop):Prop:=t=true->p
@[simp] theorem gok_f(p:Prop):gok false p=True:=by simp[gok]
@[simp] theorem gok_t(p:Prop):gok true p=p:=by simp[gok]
@[simp] theorem gok_T(t:Bool):gok t True=True:=by simp[gok]
@[simp high] theorem z5ia(E:Env)(d s:Nat)(w:Bool)(op:AOp)(o e:List (Nat×oH))(b:List (Nat×Option (List oH))):
  okA E ⟨some d,some (s,w),op⟩ ⟨o,e,b⟩=((∀x∈d::op.wrS,lk o x=none)∧okG (ASt.get ⟨o,e,b⟩ s)∧gok (fG (ASt.get ⟨o,e,b⟩ s) w) (okp E (ASt.get ⟨o,e,b⟩) (ASt.getB ⟨o,e,b⟩) op)):=rfl
theorem z74{n:Nat}{b:List UInt8}(h:(co b).2.2=0):nG (n+1) b=((co b).1::(nG n (b.drop (co b).2.1)).1,(nG n (b.drop (co b).2.1)).2):=by simp[nG,h]
def rt(d:List UInt8)(nl nb:Option Bool)(ls:List Int)(b:List UInt8):List oH:=[st d,.sl .plain nl ls.length (rD ls),.sl .plain nb b.length (bys b)]
end Go.Abs