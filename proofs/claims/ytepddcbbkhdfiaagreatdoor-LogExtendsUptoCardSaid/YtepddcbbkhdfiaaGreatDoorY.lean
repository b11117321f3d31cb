/- Lemmas: an abstract interpreter, and what the functions compute. -/
import Derived.Test.YtepddcbbkhdfiaaGreatDoorR
import Derived.Test.YtepddcbbkhdfiaaGreatDoorP
import Derived.Test.YtepddcbbkhdfiaaGreatDoorO
import Derived.Test.YtepddcbbkhdfiaaGreatDoorS
import Derived.Test.YtepddcbbkhdfiaaGreatDoorJ
import Derived.Test.YtepddcbbkhdfiaaGreatDoorH
import Derived.Test.YtepddcbbkhdfiaaGreatDoorI
import Derived.Test.YtepddcbbkhdfiaaGreatDoorG
import Derived.Test.YtepddcbbkhdfiaaGreatDoorF
import Derived.Deep.DeepHandedRow
import Derived.Lib.LaidTab
import Derived.ChangeBears
import Derived.Carry
import Derived.OpenShut
import Derived.ChangeSame
import Derived.Test.YtepddcbbkhdfiaaGreatDoorW
set_option linter.unusedSimpArgs false
set_option linter.unusedVariables false
set_option linter.unusedSectionVars false
section
namespace Go.Abs
set_option maxRecDepth 100000
end Go.Abs
end

section
namespace Go.Abs
set_option maxRecDepth 100000
theorem z2Rb {p:List (List UInt8)} (h:0<p.length):p=p.take (p.length-1)++[z8ga p (p.length-1)]:=by
 have:=List.take_append_getElem (l:=p) (i:=p.length-1) (h:=by omega)
 rw[show p.length-1+1=p.length by omega,List.take_length] at this
 rw[z8ga,List.getD,List.getElem?_eq_getElem (by omega),Option.getD_some]
 exact this.symm
def z7p:Nat→Nat→Bool→List UInt8→List (List UInt8)→List UInt8×List UInt8×Bool
 |m,n,w,old,[]=>if m=n∧w=true then(old,old,true) else(z9c 16,z9c 16,false)
 |m,n,w,old,x::q=>if m=n∧w=true then(old,old,false) else if m=n then(x,x,decide (q=[])) else if m≤spl n then((z7p m (spl n) w old q).1,z4j 2 [(z7p m (spl n) w old q).2.1,x],(z7p m (spl n) w old q).2.2) else(z4j 2 [x,(z7p (m-spl n) (n-spl n) false old q).1],z4j 2 [x,(z7p (m-spl n) (n-spl n) false old q).2.1],(z7p (m-spl n) (n-spl n) false old q).2.2)
theorem z9Ea (old:List UInt8) (ho:old.length=16):∀(q:List (List UInt8)) (m n:Nat) (w:Bool),z2p q→(z7p m n w old q).1.length=16∧(z7p m n w old q).2.1.length=16
 |[],m,n,w,_=>by
  rw[z7p];split
  ·exact⟨ho,ho⟩
  ·exact⟨rfl,rfl⟩
 |x::q,m,n,w,h=>by
  obtain⟨hx,hq⟩:=z4g.1 h
  rw[z7p]
  split
  ·exact⟨ho,ho⟩
  ·split
   ·exact⟨hx,hx⟩
   ·split
    ·have ih:=(z9Ea old ho q m (spl n) w hq).1
     exact⟨ih,by simp only[z1h]⟩
    ·simp only[z1h,and_self]
def z22 (t:List UInt8×List UInt8×Bool):List z2a:=bys (t.1++t.2.1)++[bo t.2.2]
def z7rb (t:List UInt8×List UInt8×Bool):z2a:= .agg (z22 t)
def z8La:z5a:=⟨fun ds=>∃(old:List UInt8) (m n:Nat) (w:Bool) (nl:Option Bool) (p:List (List UInt8)),old.length=16∧1≤m∧m≤n∧n≤9223372036854775807∧z2p p∧p.length≤1000∧ds=[.agg (bys old),i64 m,i64 n,bo w,z5w nl p],
 fun ds=>z7rb (z7p (asI (nth ds 1)).toNat (asI (nth ds 2)).toNat (asB (nth ds 3)) (gBs (gCs (nth ds 0))) (gDs (nth ds 4)).reverse)⟩
theorem z8Wa {old:List UInt8} {m n:Nat} {w:Bool} {nl:Option Bool} {p:List (List UInt8)} {b:List UInt8} {k:Nat} (ho:old.length=16) (h1:1≤m) (h2:m≤n) (hn:n≤9223372036854775807) (hp:z2p p) (hl:p.length≤1000) (hk:k=p.length) (hb:b=dgs p):z8La.pre [.agg (bys old),i64 m,i64 n,bo w,.sl .plain nl k (bys b)]=True:=eq_true ⟨old,m,n,w,nl,p,ho,h1,h2,hn,hp,hl,by rw[hk,hb];rfl⟩
theorem z2ta {old:List UInt8} {m n:Nat} {w:Bool} {md:z0ka} {nl:Option Bool} {p:List (List UInt8)} {b:List UInt8} {k:Nat} (hp:z2p p) (hk:k=p.length) (hb:b=dgs p):z8La.post [.agg (bys old),i64 m,i64 n,bo w,.sl md nl k (bys b)]=z7rb (z7p m n w old p.reverse):=by
 have e:gDs (nth [.agg (bys old),i64 m,i64 n,bo w,.sl md nl k (bys b)] 4)=p:=by rw[hk,hb];exact z8A hp
 have e1:(asI (nth [.agg (bys old),i64 m,i64 n,bo w,.sl md nl k (bys b)] 1)).toNat=m:=Int.toNat_natCast m
 have e2:(asI (nth [.agg (bys old),i64 m,i64 n,bo w,.sl md nl k (bys b)] 2)).toNat=n:=Int.toNat_natCast n
 have e3:gBs (gCs (nth [.agg (bys old),i64 m,i64 n,bo w,.sl md nl k (bys b)] 0))=old:=by simp[nth,gCs]
 simp only[z8La]
 rw[e,e1,e2,e3];rfl
def z8Ta (ds:List z2a):Nat:=z9r (nth ds 4)
end Go.Abs
end

section
namespace Go.Abs
set_option maxRecDepth 100000
theorem z6F {t:List UInt8×List UInt8×Bool} (hx:t.1.length=16) (hy:t.2.1.length=16):(z22 t).length=33:=by simp[z22,hx,hy]
theorem z2Bb {t:List UInt8×List UInt8×Bool} (hx:t.1.length=16):(z22 t).take 16=bys t.1:=by
 have h:(bys t.1).length=16:=by simpa using hx
 rw[z22,z9s,List.append_assoc,←h,List.take_left]
theorem z9cb {t:List UInt8×List UInt8×Bool} (hx:t.1.length=16) (hy:t.2.1.length=16):((z22 t).drop 16).take 16=bys t.2.1:=by
 have h:(bys t.1).length=16:=by simpa using hx
 have h':(bys t.2.1).length=16:=by simpa using hy
 have e:(z22 t).drop 16=bys t.2.1++[bo t.2.2]:=by
  rw[z22,z9s,List.append_assoc]
  conv=>lhs;rw[←h]
  rw[List.drop_left]
 rw[e]
 conv=>lhs;rw[←h']
 rw[List.take_left]
theorem z4db {t:List UInt8×List UInt8×Bool} (hx:t.1.length=16) (hy:t.2.1.length=16):hdA ((z22 t).drop 32)=bo t.2.2:=by
 have h:(bys (t.1++t.2.1)).length=32:=by simp[hx,hy]
 rw[z22,←h,List.drop_left];rfl
@[simp] theorem z3nd (t:List UInt8×List UInt8×Bool):(∀c∈z22 t,z0d c)↔True:=by simp[z22,or_imp,forall_and]
@[simp] theorem z5xd (t:List UInt8×List UInt8×Bool):(∀c∈z22 t,z5e c=false)↔True:=by simp[z22,or_imp,forall_and]
@[simp] theorem z7gd (t:List UInt8×List UInt8×Bool):z3f (z22 t)=true:=by simp[z22]
@[simp] theorem z9jd (t:List UInt8×List UInt8×Bool):z9f (z22 t)=[]:=by simp[z22]
theorem z9I:bys (z9c 32)++[bo false]=z22 (z9c 16,z9c 16,false):=rfl
theorem z23b {t:List UInt8×List UInt8×Bool} {x y:List UInt8} (b:Bool) (h1:t.1.length=16) (h2:t.2.1.length=16) (hx:x.length=16) (hy:y.length=16):splice (splice (splice (z22 t) 0 (bys x)) 16 (bys y)) 32 [bo b]=z22 (x,y,b):=by
 obtain⟨u,v,c⟩:=t
 simp only at h1 h2
 have hu:(bys u).length=16:=by simpa using h1
 have hv:(bys v).length=16:=by simpa using h2
 have hx':(bys x).length=16:=by simpa using hx
 have hy':(bys y).length=16:=by simpa using hy
 simp only[z22,z9s]
 generalize bys u=U at*
 generalize bys v=V at*
 generalize bys x=X at*
 generalize bys y=Y at*
 have e1:splice (U++V++[bo c]) 0 X=X++V++[bo c]:=by
  simp[splice,hx',←hu]
 rw[e1]
 have e2:splice (X++V++[bo c]) 16 Y=X++Y++[bo c]:=by
  unfold splice
  rw[List.append_assoc X,←hx',List.take_left,hx',hy',show 16+16=(X++V).length by simp[hx',hv],←List.append_assoc X,List.drop_left]
 rw[e2]
 unfold splice
 rw[show 32=(X++Y).length by simp[hx',hy'],List.take_left,List.drop_of_length_le (by simp;omega)]
 simp
theorem z3Ab:((z9c 16,z9c 16,false):List UInt8×List UInt8×Bool).1.length=16:=rfl
theorem z9zb:((z9c 16,z9c 16,false):List UInt8×List UInt8×Bool).2.1.length=16:=rfl
set_option maxHeartbeats 16000000 in
theorem z1vc (E:Env) (k:Nat) (h195:E.G 195=z6Kb) (h202:E.G 202=z8nc) (h205:E.G 205=z9La z8La z8Ta k):∀ds,(z9La z8La z8Ta (k+1)).pre ds→ds.length=z7c.n∧awp E z7c.body (z0m z7c.res (z8La.post ds)) (z3b z7c.wr ds):=by
 rintro _ ⟨⟨old,m,n,w,nl,p,ho,h1,hmn,hn,hp,hpl,rfl⟩,hk⟩
 rw[z5w,z2ta hp rfl rfl,z7rb]
 have hk:p.length<k+1:=hk
 have tko:=z0g ho
 have zl:=z6F z3Ab z9zb
 have fill:=fun(x y:List UInt8) (b:Bool) (hx:x.length=16) (hy:y.length=16)=>z23b b z3Ab z9zb hx hy
 by_cases hw:m=n∧w=true
 ·obtain⟨rfl,rfl⟩:=hw
  have e:z7p m m true old p.reverse=(old,old,decide (p=[])):=by
   cases hq:p.reverse with
   |nil=>rw[z7p,if_pos ⟨rfl,rfl⟩,List.reverse_eq_nil_iff.1 hq];rfl
   |cons x q=>
    have:p≠[]:=by intro h;rw[h] at hq;cases hq
    rw[z7p,if_pos ⟨rfl,rfl⟩,decide_eq_false this]
  have ed:((p.length:Int)==0)=decide (p=[]):=by
   cases p with
   |nil=>rfl
   |cons a p=>simp;omega
  rw[e]
  have f1:=fill old old (decide (p=[])) ho ho
  have fl:=z6F (t:=(old,old,decide (p=[]))) ho ho
  have flt:=List.take_of_length_le (Nat.le_of_eq fl)
  simp(maxSteps:=1000000) (disch:=first|omega|(simp;done)|(simp;omega)) [z9a,z1a,z0a,z7c,z9I,kT,kF,dT,dF,ho,tko,ed,f1,fl,zl,z8a,flt]
 ·by_cases hp0:p.length=0
  ·have e0:p=[]:=List.length_eq_zero_iff.1 hp0
   subst e0
   have e:z7p m n w old [].reverse=(z9c 16,z9c 16,false):=by rw[List.reverse_nil,z7p,if_neg hw]
   rw[e]
   have flt:=List.take_of_length_le (Nat.le_of_eq zl)
   by_cases he:m=n
   ·subst he
    have hwf:w=false:=by
     cases w with
     |false=>rfl
     |true=>exact absurd ⟨rfl,rfl⟩ hw
    subst hwf
    simp(maxSteps:=1000000) (disch:=first|omega|(simp;done)|(simp;omega)) [z9a,z1a,z0a,z7c,z0h,z9I,kT,kF,dT,dF,ho,tko,zl,z8a,flt]
   ·have b1:((m:Int)==(n:Int))=false:=beq_false_of_ne (by omega)
    simp(maxSteps:=1000000) (disch:=first|omega|(simp;done)|(simp;omega)) [z9a,z1a,z0a,z7c,z0h,z9I,kT,kF,dT,dF,ho,tko,zl,z8a,flt,b1]
  ·have hrev:p.reverse=z8ga p (p.length-1)::(p.take (p.length-1)).reverse:=by
    conv=>lhs;rw[z2Rb (p:=p) (by omega)]
    simp
   have hdl:=z0q hp
   have hat:=z5wa hp (show p.length-1<p.length by omega)
   have hal:=z7I hp (show p.length-1<p.length by omega)
   have htk:=z75 hp (p.length-1)
   have e1:((p.length:Int)-1).toNat=p.length-1:=by omega
   have r16:z2p (p.take (p.length-1)):=z9v hp _
   have rl:(p.take (p.length-1)).length=p.length-1:=by simp
   have b0:((p.length:Int)==0)=false:=beq_false_of_ne (by omega)
   have tkx:=z0g hal
   rw[hrev]
   generalize hx:z8ga p (p.length-1)=x at*
   generalize hq:p.take (p.length-1)=q at*
   by_cases he:m=n
   ·subst he
    have hwf:w=false:=by
     cases w with
     |false=>rfl
     |true=>exact absurd ⟨rfl,rfl⟩ hw
    subst hwf
    have e:z7p m m false old (x::q.reverse)=(x,x,decide (q.length=0)):=by
     rw[z7p,if_neg (by simp),if_pos rfl]
     cases q<;>simp
    rw[e]
    have ed:(((p.length-1:Nat):Int)==0)=decide (q.length=0):=by
     rw[rl]
     by_cases h:p.length-1=0
     ·rw[h];rfl
     ·rw[decide_eq_false h];exact beq_false_of_ne (by omega)
    rw[←ed]
    generalize hbb:(((p.length-1:Nat):Int)==0)=bb at*
    have f1:=fill x x bb hal hal
    have fl:=z6F (t:=(x,x,bb)) hal hal
    have flt:=List.take_of_length_le (Nat.le_of_eq fl)
    simp(maxSteps:=1000000) (disch:=first|omega|(simp;done)|(simp;omega)) [z9a,z1a,z0a,z7c,z0h,z7m,z9I,kT,kF,dT,dF,ho,tko,zl,z8a,flt,fl,b0,hdl,e1,hat,hal,tkx,htk,f1,hbb]
    omega
   ·have b1:((m:Int)==(n:Int))=false:=beq_false_of_ne (by omega)
    have hlt:m<n:=by omega
    have hs:=z10 (n:=n) (by omega)
    have hs1:=z6Y n
    have hst:=z5Z (n:=n) (by omega)
    have sp:z6Kb.pre [i64 n]=True:=z3Fb (by omega) (by omega)
    have q16r:=z5Hb r16
    generalize hK:spl n=K at*
    by_cases hc:m≤K
    ·have hci:(m:Int)≤(K:Int):=by omega
     have hp1:(z9La z8La z8Ta k).pre [.agg (bys old),i64 m,i64 K,bo w,.sl .plain nl (p.length-1) (bys (dgs q))]=True:=eq_true ⟨of_eq_true (z8Wa ho h1 hc (by omega) r16 (by omega) rl.symm rfl),by show p.length-1<k;omega⟩
     have hq1:(z9La z8La z8Ta k).post [.agg (bys old),i64 m,i64 K,bo w,.sl .plain nl (p.length-1) (bys (dgs q))]=z7rb (z7p m K w old q.reverse):=z2ta r16 rl.symm rfl
     rw[z7rb] at hq1
     have e:z7p m n w old (x::q.reverse)=((z7p m K w old q.reverse).1,z4j 2 [(z7p m K w old q.reverse).2.1,x],(z7p m K w old q.reverse).2.2):=by
      rw[z7p,if_neg hw,if_neg he,hK,if_pos hc]
     obtain⟨t1,t2⟩:=z9Ea old ho q.reverse m K w q16r
     rw[e]
     generalize z7p m K w old q.reverse=T at*
     obtain⟨y,hy,hyl⟩:∃y,z4j 2 [T.2.1,x]=y∧y.length=16:=⟨_,rfl,z1h _ _⟩
     rw[hy]
     have g1:=fill T.1 y T.2.2 t1 hyl
     have g2:=z6F t1 t2
     have g3:=z2Bb t1
     have g4:=z9cb t1 t2
     have g5:=z4db t1 t2
     have g6:=List.take_of_length_le (Nat.le_of_eq g2)
     have g7:=z6F (t:=(T.1,y,T.2.2)) t1 hyl
     have g8:=List.take_of_length_le (Nat.le_of_eq g7)
     have tk1:=z0g t1
     have tk2:=z0g t2
     simp(maxSteps:=1000000) (disch:=first|omega|(simp;done)|(simp;omega)) [z9a,z1a,z0a,z7c,z0h,z7m,z1t,z9I,kT,kF,dT,dF,ho,tko,zl,z8a,b1,b0,hdl,e1,hat,hal,tkx,htk,h195,sp,hK,hci,h205,hp1,hq1,g1,g2,g3,g4,g5,g6,g7,g8,hy,hyl,t1,t2,h202,z6Pa t2 hal]
     omega
    ·have hci:¬(m:Int)≤(K:Int):=by omega
     have hsm:(m:Int)-(K:Int)=((m-K:Nat):Int):=by omega
     have hsn:(n:Int)-(K:Int)=((n-K:Nat):Int):=by omega
     have hp1:(z9La z8La z8Ta k).pre [.agg (bys old),i64 (m-K:Nat),i64 (n-K:Nat),bo false,.sl .plain nl (p.length-1) (bys (dgs q))]=True:=eq_true ⟨of_eq_true (z8Wa ho (by omega) (by omega) (by omega) r16 (by omega) rl.symm rfl),by show p.length-1<k;omega⟩
     have hq1:(z9La z8La z8Ta k).post [.agg (bys old),i64 (m-K:Nat),i64 (n-K:Nat),bo false,.sl .plain nl (p.length-1) (bys (dgs q))]=z7rb (z7p (m-K) (n-K) false old q.reverse):=z2ta r16 rl.symm rfl
     rw[z7rb] at hq1
     have e:z7p m n w old (x::q.reverse)=(z4j 2 [x,(z7p (m-K) (n-K) false old q.reverse).1],z4j 2 [x,(z7p (m-K) (n-K) false old q.reverse).2.1],(z7p (m-K) (n-K) false old q.reverse).2.2):=by
      rw[z7p,if_neg hw,if_neg he,hK,if_neg hc]
     obtain⟨t1,t2⟩:=z9Ea old ho q.reverse (m-K) (n-K) false q16r
     rw[e]
     generalize z7p (m-K) (n-K) false old q.reverse=T at*
     obtain⟨y,hy,hyl⟩:∃y,z4j 2 [x,T.1]=y∧y.length=16:=⟨_,rfl,z1h _ _⟩
     obtain⟨z,hz,hzl⟩:∃z,z4j 2 [x,T.2.1]=z∧z.length=16:=⟨_,rfl,z1h _ _⟩
     rw[hy,hz]
     have g1:=fill y z T.2.2 hyl hzl
     have g2:=z6F t1 t2
     have g3:=z2Bb t1
     have g4:=z9cb t1 t2
     have g5:=z4db t1 t2
     have g6:=List.take_of_length_le (Nat.le_of_eq g2)
     have g7:=z6F (t:=(y,z,T.2.2)) hyl hzl
     have g8:=List.take_of_length_le (Nat.le_of_eq g7)
     simp(maxSteps:=1000000) (disch:=first|omega|(simp;done)|(simp;omega)) [z9a,z1a,z0a,z7c,z0h,z7m,z1t,z6E,z9I,kT,kF,dT,dF,ho,tko,zl,z8a,b1,b0,hdl,e1,hat,hal,tkx,htk,h195,sp,hK,hci,hsm,hsn,h205,hp1,hq1,g1,g2,g3,g4,g5,g6,g7,g8,hy,hz,hyl,hzl,t1,t2,h202,z6Pa hal t1,z6Pa hal t2]
     omega
end Go.Abs
end

section
namespace Go.Abs
set_option maxRecDepth 100000
def hdO (pr:List (List UInt8)):Option (List UInt8×List (List UInt8)):=match pr with|[]=>none|x::p=>some (x,p)
def vS (D:List Bool) (w:Bool) (old:List UInt8) (pr:List (List UInt8)):Option (List UInt8×List (List UInt8)):=
 if w=true∧D.all (! ·)=true then some (old,pr) else hdO pr
theorem z58c (D:List Bool) (old:List UInt8) (pr:List (List UInt8)):vS D true old pr=vpS D old pr:=by
 unfold vS vpS
 cases D.all (! ·)<;>simp
 cases pr<;>rfl
theorem z6Ic (a b:List UInt8):z4j 2 [a,b]=nd a b:=rfl
def z6Ca (D:List Bool) (w:Bool) (old:List UInt8) (pr:List (List UInt8)) (u v:List UInt8) (ok:Bool):Prop:=
 match vS D w old pr with
 |none=>ok=false
 |some (x,r)=>ok=decide (r.length=D.length)∧(r.length=D.length→u=(z2ma (D.reverse.zip r) x x).1∧v=(z2ma (D.reverse.zip r) x x).2)
theorem z62a {D:List Bool} {w w' b:Bool} {old x u v u' v':List UInt8} {pr:List (List UInt8)} {ok:Bool} (hw:(w'=true∧(b::D).all (! ·)=true)↔(w=true∧D.all (! ·)=true)) (h:z6Ca D w old pr u v ok)
  (hu:u'=if b then nd x u else u) (hv:v'=if b then nd x v else nd v x):z6Ca (b::D) w' old (pr++[x]) u' v' ok:=by
 have key:∀(z:List UInt8) (r:List (List UInt8)),(ok=decide (r.length=D.length)∧(r.length=D.length→u=(z2ma (D.reverse.zip r) z z).1∧v=(z2ma (D.reverse.zip r) z z).2))→
   ok=decide ((r++[x]).length=(b::D).length)∧((r++[x]).length=(b::D).length→u'=(z2ma ((b::D).reverse.zip (r++[x])) z z).1∧v'=(z2ma ((b::D).reverse.zip (r++[x])) z z).2):=fun z r hr=>by
  have hl:(r++[x]).length=(b::D).length↔r.length=D.length:=by simp
  refine⟨?_,fun h=> ?_⟩
  ·simp only[hl]
   exact hr.1
  ·have hrl:=hl.1 h
   obtain⟨k1,k2⟩:=hr.2 hrl
   rw[List.reverse_cons,z2Ra _ _ _ _ (by simp[hrl]),z8ea,hu,hv,←k1,←k2]
   cases b<;>simp
 unfold z6Ca at h⊢
 by_cases hc:w=true∧D.all (! ·)=true
 ·have e1:vS D w old pr=some (old,pr):=if_pos hc
  have e2:vS (b::D) w' old (pr++[x])=some (old,pr++[x]):=if_pos (hw.2 hc)
  rw[e1] at h
  rw[e2]
  exact key old pr h
 ·have e1:vS D w old pr=hdO pr:=if_neg hc
  have e2:vS (b::D) w' old (pr++[x])=hdO (pr++[x]):=if_neg (fun h=>hc (hw.1 h))
  rw[e1] at h
  rw[e2]
  cases pr with
  |nil=>
   have h':ok=false:=h
   refine⟨?_,fun hl=>by simp at hl⟩
   simp[h']
  |cons z r=>exact key z r h
theorem z9Va (old:List UInt8):∀(q:List (List UInt8)) (m n:Nat) (w:Bool),1≤m→m≤n→z6Ca (dpd m n) w old q.reverse (z7p m n w old q).1 (z7p m n w old q).2.1 (z7p m n w old q).2.2
 |[],m,n,w,h1,h2=>by
  rw[z7p]
  by_cases hw:m=n∧w=true
  ·rw[if_pos hw,z1bb (by omega)]
   unfold z6Ca
   rw[show vS [] w old [].reverse=some (old,[]) from if_pos ⟨hw.2,rfl⟩]
   exact⟨rfl,fun _=>⟨rfl,rfl⟩⟩
  ·rw[if_neg hw]
   unfold z6Ca
   by_cases hc:w=true∧(dpd m n).all (! ·)=true
   ·rw[show vS (dpd m n) w old [].reverse=some (old,[]) from if_pos hc]
    have hlt:m<n:=by
     rcases Nat.lt_or_ge m n with h|h
     ·exact h
     ·exact absurd ⟨by omega,hc.1⟩ hw
    have hd:(dpd m n).length≠0:=by rw[z8zb ⟨h1,hlt⟩];split<;>simp
    refine⟨?_,fun h=>absurd h.symm hd⟩
    rw[decide_eq_false (fun h=>hd h.symm)]
   ·rw[show vS (dpd m n) w old [].reverse=none from if_neg hc]
 |x::q,m,n,w,h1,h2=>by
  rw[z7p,List.reverse_cons]
  by_cases hw:m=n∧w=true
  ·rw[if_pos hw,z1bb (by omega)]
   unfold z6Ca
   rw[show vS [] w old (q.reverse++[x])=some (old,q.reverse++[x]) from if_pos ⟨hw.2,rfl⟩]
   exact⟨by simp,fun h=>by simp at h⟩
  ·rw[if_neg hw]
   by_cases he:m=n
   ·have hwf:w=false:=by
     cases w with
     |false=>rfl
     |true=>exact absurd ⟨he,rfl⟩ hw
    rw[if_pos he,z1bb (by omega),hwf]
    unfold z6Ca
    cases hq:q.reverse with
    |nil=>
     rw[List.reverse_eq_nil_iff.1 hq]
     exact⟨rfl,fun _=>⟨rfl,rfl⟩⟩
    |cons z r=>
     have hne:q≠[]:=by intro h;rw[h] at hq;cases hq
     refine⟨?_,fun h=>by simp at h⟩
     simp[hne]
   ·have hlt:m<n:=by omega
    have hs:=z10 (n:=n) (by omega)
    have hs1:=z6Y n
    rw[if_neg he,z8zb ⟨h1,hlt⟩]
    by_cases hc:m≤spl n
    ·rw[if_pos hc,if_pos hc]
     have ih:=z9Va old q m (spl n) w h1 hc
     generalize z7p m (spl n) w old q=T at ih⊢
     obtain⟨u,v,ok⟩:=T
     simp only[z6Ic] at ih⊢
     exact z62a (b:=false) (by simp) ih (by simp) (by simp)
    ·rw[if_neg hc,if_neg hc]
     have ih:=z9Va old q (m-spl n) (n-spl n) false (by omega) (by omega)
     generalize z7p (m-spl n) (n-spl n) false old q=T at ih⊢
     obtain⟨u,v,ok⟩:=T
     simp only[z6Ic] at ih⊢
     exact z62a (b:=true) (by simp) ih (by simp) (by simp)
theorem z9xc {old root:List UInt8} {m n:Nat} (h1:1≤m) (h2:m≤n) (p:List (List UInt8)):vpN old root m n p=((z7p m n true old p.reverse).2.2&&decide ((z7p m n true old p.reverse).1=old)&&decide ((z7p m n true old p.reverse).2.1=root)):=by
 have h:=z9Va old p.reverse m n true h1 h2
 rw[List.reverse_reverse] at h
 unfold z6Ca at h
 rw[z58c] at h
 have hc:(1:Int)≤(m:Int)∧(m:Int)≤(n:Int):=by omega
 rw[vpN,if_pos hc,Int.toNat_natCast,Int.toNat_natCast]
 generalize z7p m n true old p.reverse=t at*
 cases hv:vpS (dpd m n) old p with
 |none=>
  rw[hv] at h
  simp only at h⊢
  rw[h];rfl
 |some xr=>
  obtain⟨x,r⟩:=xr
  rw[hv] at h
  simp only at h⊢
  obtain⟨k1,k2⟩:=h
  unfold vpE
  by_cases hl:r.length=(dpd m n).length
  ·obtain⟨k3,k4⟩:=k2 hl
   rw[if_pos hl,k1,decide_eq_true hl,k3,k4,Bool.true_and]
  ·rw[if_neg hl,k1,decide_eq_false hl];rfl
set_option maxHeartbeats 8000000 in
theorem z8Od (E:Env) (h205:E.G 205=z8La):∀ds,z6ad.pre ds→ds.length=z3c.n∧awp E z3c.body (z0m z3c.res (z6ad.post ds)) (z3b z3c.wr ds):=by
 rintro _ ⟨old,root,m,n,nl,p,ho,hr,hn,hp,hpl,rfl⟩
 rw[z5w,z42a hp]
 have tko:=z0g ho
 have tkr:=z0g hr
 by_cases g0:m<1
 ·rw[vpN,if_neg (by omega)]
  simp(maxSteps:=1000000) (disch:=first|omega|(simp;done)|(simp;omega)) [z9a,z1a,z0a,z3c,kT,kF,dT,dF,g0,ho,hr]
 by_cases g1:n<m
 ·rw[vpN,if_neg (by omega)]
  simp(maxSteps:=1000000) (disch:=first|omega|(simp;done)|(simp;omega)) [z9a,z1a,z0a,z3c,kT,kF,dT,dF,g0,g1,ho,hr]
 obtain⟨a,rfl⟩:=Int.eq_ofNat_of_zero_le (show 0≤m by omega)
 obtain⟨b,rfl⟩:=Int.eq_ofNat_of_zero_le (show 0≤n by omega)
 rw[z9xc (show 1≤a by omega) (by omega)]
 have c1:=z8Wa (w:=true) (nl:=nl) ho (show 1≤a by omega) (show a≤b by omega) (by omega) hp hpl rfl rfl
 have c2:=z2ta (old:=old) (m:=a) (n:=b) (w:=true) (md:= .plain) (nl:=nl) hp rfl rfl
 rw[z7rb] at c2
 obtain⟨t1,t2⟩:=z9Ea old ho p.reverse a b true (z5Hb hp)
 have zl:=z6F z3Ab z9zb
 generalize z7p a b true old p.reverse=T at*
 have g2:=z6F t1 t2
 have g3:=z2Bb t1
 have g4:=z9cb t1 t2
 have g5:=z4db t1 t2
 have g6:=List.take_of_length_le (Nat.le_of_eq g2)
 have eq1:=z6ia t1 ho
 have eq2:=z6ia t2 hr
 obtain⟨u,v,ok⟩:=T
 simp only at*
 cases ok with
 |false=>
  simp(maxSteps:=1000000) (disch:=first|omega|(simp;done)|(simp;omega)) [z9a,z1a,z0a,z3c,z2i,z9I,kT,kF,dT,dF,g0,g1,ho,hr,tko,tkr,h205,c1,c2,zl,g2,g3,g4,g5,g6,z8a]
 |true=>
  by_cases hu:u=old
  ·rw[decide_eq_true hu] at eq1⊢
   simp(maxSteps:=1000000) (disch:=first|omega|(simp;done)|(simp;omega)) [z9a,z1a,z0a,z3c,z2i,z9I,kT,kF,dT,dF,g0,g1,ho,hr,tko,tkr,h205,c1,c2,zl,g2,g3,g4,g5,g6,z8a,eq1,eq2,t1,t2]
   skip
  ·rw[decide_eq_false hu] at eq1⊢
   simp(maxSteps:=1000000) (disch:=first|omega|(simp;done)|(simp;omega)) [z9a,z1a,z0a,z3c,z2i,z9I,kT,kF,dT,dF,g0,g1,ho,hr,tko,tkr,h205,c1,c2,zl,g2,g3,g4,g5,g6,z8a,eq1,eq2,t1,t2]
   skip
end Go.Abs
end

section
namespace Go.Abs
set_option maxRecDepth 100000
theorem z5ad {l:List UInt8} (h:l.length=16):∃a b c d e f g i j k m n o p q r,l=[a,b,c,d,e,f,g,i,j,k,m,n,o,p,q,r]:=by
 match l,h with
 |[a,b,c,d,e,f,g,i,j,k,m,n,o,p,q,r],_=>exact⟨a,b,c,d,e,f,g,i,j,k,m,n,o,p,q,r,rfl⟩
theorem eqM {x y:z2q} (hx:x.dig.length=16) (hy:y.dig.length=16):z2J kM (z6B x) (z6B y)=decide (x=y):=by
 obtain⟨x1,x2,x3,x4,x5,x6,x7,x8,xd⟩:=x
 obtain⟨y1,y2,y3,y4,y5,y6,y7,y8,yd⟩:=y
 simp only at hx hy
 obtain⟨a,b,c,d,e,f,g,i,j,k,m,n,o,p,q,r,rfl⟩:=z5ad hx
 obtain⟨a',b',c',d',e',f',g',i',j',k',m',n',o',p',q',r',rfl⟩:=z5ad hy
 have h8:∀u v:UInt8,((u.toNat:Int)==v.toNat)=(u==v):=fun u v=>by
  rw[Bool.eq_iff_iff,beq_iff_eq,beq_iff_eq]
  constructor
  ·intro h;exact UInt8.toNat_inj.1 (by omega)
  ·rintro rfl;rfl
 rw[Bool.eq_iff_iff]
 simp[kM,z2J,z00d,z6B,bys,h8,z2q.mk.injEq]
theorem okM' {x:z2q} (hx:x.dig.length=16):z2y kM (z6B x)=True:=by
 obtain⟨x1,x2,x3,x4,x5,x6,x7,x8,xd⟩:=x
 simp only at hx
 obtain⟨a,b,c,d,e,f,g,i,j,k,m,n,o,p,q,r,rfl⟩:=z5ad hx
 refine eq_true ?_
 repeat' first|exact trivial|exact rfl|refine And.intro ?_ ?_
def z7Ya:z5a:=⟨fun ds=>∃(nl nl':Option Bool) (a b:List z2q),z9T a∧z9T b∧a.length≤1000000∧ds=[.sl .plain nl a.length (z9n a),.sl .plain nl' b.length (z9n b)],
 fun ds=>bo (decide (z43a (gNn (nth ds 0)) (gCs (nth ds 0))=z43a (gNn (nth ds 1)) (gCs (nth ds 1))))⟩
theorem z76b {nl nl':Option Bool} {a b:List z2q} (h:z9T a) (h':z9T b) (hl:a.length≤1000000):z7Ya.pre [.sl .plain nl a.length (z9n a),.sl .plain nl' b.length (z9n b)]=True:=eq_true ⟨nl,nl',a,b,h,h',hl,rfl⟩
theorem z75a (nl nl':Option Bool) {a b:List z2q} (h:z9T a) (h':z9T b):z7Ya.post [.sl .plain nl a.length (z9n a),.sl .plain nl' b.length (z9n b)]=bo (decide (a=b)):=by
 show bo (decide (z43a a.length (z9n a)=z43a b.length (z9n b)))=_
 rw[z6Ea (z4s h),z6Ea (z4s h')]
theorem z54c {a b:List z2q} (h:a.length=b.length) (he:a.take a.length=b.take a.length):a=b:=by
 rw[List.take_length,h,List.take_length] at he
 exact he
set_option maxHeartbeats 4000000 in
theorem z9rc (E:Env):∀ds,z7Ya.pre ds→ds.length=z2h.n∧awp E z2h.body (z0m z2h.res (z7Ya.post ds)) (z3b z2h.wr ds):=by
 rintro _ ⟨nl,nl',a,b,ha,hb,hl,rfl⟩
 rw[z75a nl nl' ha hb]
 by_cases h:a.length=b.length
 rotate_left
 ·have hz:decide (a=b)=false:=by simpa using fun e:a=b=>h (by rw[e])
  have h':¬((a.length:Int)=b.length):=by omega
  simp(maxSteps:=1000000) (disch:=first|omega|(simp;done)|(simp;omega)) [z9a,z1a,z0a,z2h,z2x,h',kT,kF,hz]
 have h':((a.length:Int)=b.length):=by omega
 have hla:=z1aa (z4s ha)
 have hlb:=z1aa (z4s hb)
 simp(maxSteps:=1000000) (disch:=first|omega|(simp;done)|(simp;omega)) [z9a,z1a,z0a,z2h,z2x,h',kT,kF]
 refine z4a fun Q0 hQ0=> ?_
 refine z4e (fun i:Nat=>⟨[(0,.sl .plain nl a.length (z9n a)),(1,.sl .plain nl' b.length (z9n b))],[(12,i64 a.length),(13,i64 i)],[]⟩)
  (fun i=>a.length-i) (fun i=>i≤a.length∧a.take i=b.take i) 0 (by simp[h']) (by simp) fun i hi=> ?_
 obtain⟨hi,he⟩:=hi
 refine z4a fun Q1 hQ1=> ?_
 by_cases h1:i<a.length
 ·have h3:i<b.length:=by omega
  have e1:=z6Cb ha h1
  have e2:=z6Cb hb h3
  have l1:24≤a.length*24-i*24:=by omega
  have l2:24≤b.length*24-i*24:=by omega
  have l3:i*24≤a.length*24:=by omega
  have l4:i*24≤b.length*24:=by omega
  have d1:=(ha _ (z1Db h1)).2.2.2.2.2.2.2
  have d2:=(hb _ (z1Db h3)).2.2.2.2.2.2.2
  have hq:=eqM d1 d2
  have ho1:=okM' d1
  have ho2:=okM' d2
  by_cases h2:atM a i=atM b i
  ·rw[←h2] at e2 ho2 hq
   simp only[decide_true] at hq
   simp(maxSteps:=1000000) (disch:=first|omega|(simp;done)|(simp;omega)) [z9a,z1a,z0a,z4p,z7w,kT,kF,dT,dF,h1,h3,hla,hlb,e1,e2,l1,l2,l3,l4,hq,ho1,hQ1]
   refine⟨i+1,by omega,⟨by omega,?_⟩,by omega⟩
   rw[List.take_succ_eq_append_getElem h1,List.take_succ_eq_append_getElem h3,he,←z5xa h1,←z5xa h3,h2]
  ·have hz:decide (a=b)=false:=by simpa using fun e:a=b=>h2 (by rw[e])
   have hq':z2J kM (z6B (atM a i)) (z6B (atM b i))=false:=by rw[hq];simpa using h2
   simp(maxSteps:=1000000) (disch:=first|omega|(simp;done)|(simp;omega)) [z9a,z1a,z0a,z4p,z7w,kT,kF,dT,dF,h1,h3,hla,hlb,e1,e2,l1,l2,l3,l4,hq',ho1,ho2,hQ1,hQ0,hz]
 ·have e:i=a.length:=by omega
  subst e
  have hz:decide (a=b)=true:=by simpa using z54c h he
  simp(maxSteps:=1000000) (disch:=first|omega|(simp;done)|(simp;omega)) [z9a,z1a,z0a,z4p,z3K,kT,kF,dT,dF,hQ1,hQ0,hz]
theorem z9lc (a b:List Int):decide (a=b)=(a==b):=by rw[Bool.eq_iff_iff];simp
set_option maxHeartbeats 8000000 in
theorem z1jc (E:Env) (h133:E.G 133=z8aa) (h301:E.G 301=z7Ya) (h132:E.G 132=z1F):∀ds,z5Db.pre ds→ds.length=z0z.n∧awp E z0z.body (z0m z0z.res (z5Db.post ds)) (z3b z0z.wr ds):=by
 rintro _ ⟨nc,nm,ng,nc',nm',ng',x,y,hx,hy,rfl⟩
 rw[z9qb hx hy]
 have hd:=hx.1.2.2.2.2.2.1
 have hd':=hy.1.2.2.2.2.2.1
 have hl:=z4V (nc:=nc) (nm:=nm) (ng:=ng) hd
 have hl':=z4V (nc:=nc') (nm:=nm') (ng:=ng') hd'
 have h28:=z55a (nc:=nc) (nm:=nm) (ng:=ng) hd
 have h29:=z76a (nc:=nc) (nm:=nm) (ng:=ng) hd
 have h28':=z55a (nc:=nc') (nm:=nm') (ng:=ng') hd'
 have h29':=z76a (nc:=nc') (nm:=nm') (ng:=ng') hd'
 have hg:=z9gb (nc:=nc) (nm:=nm) (ng:=ng) hd
 have hg':=z9gb (nc:=nc') (nm:=nm') (ng:=ng') hd'
 have hm:=hx.1.2.2.2.2.2.2.1
 have hm':=hy.1.2.2.2.2.2.2.1
 have hgl:=hx.2.2.2
 obtain⟨Z,hZ⟩:∃Z,Z=z48 x y:=⟨_,rfl⟩
 rw[←hZ]
 have eqd:=z6ia hd hd'
 have p1:=z6Za (nl:=nc) (nl':=nc') hx.2.1 hy.2.1
 have q1:=z9ea x.cmd y.cmd nc nc'
 have p2:=z76b (nl:=nm) (nl':=nm') hm hm' hx.2.2.1
 have q2:=z75a nm nm' hm hm'
 refine⟨rfl,?_⟩
 simp only[z0z]
 refine z4a fun Q9 hQ9=> ?_
 refine z4W fun B hB=> ?_
 simp(maxSteps:=1000000) (disch:=first|omega|(simp;done)|(simp;omega)) [z9a,z1a,z0a,hl,hl']
 rw[hB];clear hB
 rw[z6n]
 refine z4a fun Q1 hQ1=> ?_
 rw[z8z]
 refine z1d fun T hT=> ?_
 simp(maxSteps:=1000000) (disch:=first|omega|(simp;done)|(simp;omega)) [z9a,z1a,z0a,z1qa,hl,hl',h28,h29,h28',h29',hg,hg',eqd,hd,hd',h133,h301,h132,p1,q1,p2,q2]
 by_cases c1:x.time=y.time
 rotate_left
 ·refine z5c false 10 4 (by simp[c1]) (by rw[hT];kernel_rfl) (by rw[hT];kernel_rfl) ?_
  have hz:Z=false:=by rw[hZ];simp[z48,c1]
  simp(maxSteps:=1000000) (disch:=first|omega|(simp;done)|(simp;omega)) [z9a,z1a,z0a,hQ1,hQ9,hz]
 rw[hT];clear hT
 refine z1d fun T hT=> ?_
 simp(maxSteps:=1000000) (disch:=first|omega|(simp;done)|(simp;omega)) [z9a,z1a,z0a,z4qa,hl,hl',h28,h29,h28',h29',hg,hg',eqd,hd,hd',h133,h301,h132,p1,q1,p2,q2,c1]
 by_cases c2:x.kind=y.kind
 rotate_left
 ·refine z5c false 17 4 (by simp[c2]) (by rw[hT];kernel_rfl) (by rw[hT];kernel_rfl) ?_
  have hz:Z=false:=by rw[hZ];simp[z48,c2]
  simp(maxSteps:=1000000) (disch:=first|omega|(simp;done)|(simp;omega)) [z9a,z1a,z0a,hQ1,hQ9,hz]
 rw[hT];clear hT
 refine z1d fun T hT=> ?_
 simp(maxSteps:=1000000) (disch:=first|omega|(simp;done)|(simp;omega)) [z9a,z1a,z0a,z9qa,hl,hl',h28,h29,h28',h29',hg,hg',eqd,hd,hd',h133,h301,h132,p1,q1,p2,q2,c1,c2]
 by_cases c3:x.req=y.req
 rotate_left
 ·refine z5c false 24 4 (by simp[c3]) (by rw[hT];kernel_rfl) (by rw[hT];kernel_rfl) ?_
  have hz:Z=false:=by rw[hZ];simp[z48,c3]
  simp(maxSteps:=1000000) (disch:=first|omega|(simp;done)|(simp;omega)) [z9a,z1a,z0a,hQ1,hQ9,hz]
 rw[hT];clear hT
 refine z1d fun T hT=> ?_
 simp(maxSteps:=1000000) (disch:=first|omega|(simp;done)|(simp;omega)) [z9a,z1a,z0a,z3pa,hl,hl',h28,h29,h28',h29',hg,hg',eqd,hd,hd',h133,h301,h132,p1,q1,p2,q2,c1,c2,c3]
 by_cases c4:x.mode=y.mode
 rotate_left
 ·refine z5c false 31 4 (by simp[c4]) (by rw[hT];kernel_rfl) (by rw[hT];kernel_rfl) ?_
  have hz:Z=false:=by rw[hZ];simp[z48,c4]
  simp(maxSteps:=1000000) (disch:=first|omega|(simp;done)|(simp;omega)) [z9a,z1a,z0a,hQ1,hQ9,hz]
 rw[hT];clear hT
 refine z1d fun T hT=> ?_
 simp(maxSteps:=1000000) (disch:=first|omega|(simp;done)|(simp;omega)) [z9a,z1a,z0a,z7na,hl,hl',h28,h29,h28',h29',hg,hg',eqd,hd,hd',h133,h301,h132,p1,q1,p2,q2,c1,c2,c3,c4]
 by_cases c5:x.dig=y.dig
 rotate_left
 ·refine z5c false 38 4 (by simp[c5]) (by rw[hT];kernel_rfl) (by rw[hT];kernel_rfl) ?_
  have hz:Z=false:=by rw[hZ];simp[z48,c5]
  simp(maxSteps:=1000000) (disch:=first|omega|(simp;done)|(simp;omega)) [z9a,z1a,z0a,hQ1,hQ9,hz]
 rw[hT];clear hT
 refine z1d fun T hT=> ?_
 simp(maxSteps:=1000000) (disch:=first|omega|(simp;done)|(simp;omega)) [z9a,z1a,z0a,z3na,hl,hl',h28,h29,h28',h29',hg,hg',eqd,hd,hd',h133,h301,h132,p1,q1,p2,q2,c1,c2,c3,c4,c5]
 by_cases c6:z8Ua x.cmd y.cmd=true
 rotate_left
 ·refine z5c false 45 4 (by simp[c6]) (by rw[hT];kernel_rfl) (by rw[hT];kernel_rfl) ?_
  have hz:Z=false:=by rw[hZ];simp[z48,c6]
  simp(maxSteps:=1000000) (disch:=first|omega|(simp;done)|(simp;omega)) [z9a,z1a,z0a,hQ1,hQ9,hz]
 rw[hT];clear hT
 refine z1d fun T hT=> ?_
 simp(maxSteps:=1000000) (disch:=first|omega|(simp;done)|(simp;omega)) [z9a,z1a,z0a,z6qa,hl,hl',h28,h29,h28',h29',hg,hg',eqd,hd,hd',h133,h301,h132,p1,q1,p2,q2,c1,c2,c3,c4,c5,c6]
 by_cases c7:x.made=y.made
 rotate_left
 ·refine z5c false 52 4 (by simp[c7]) (by rw[hT];kernel_rfl) (by rw[hT];kernel_rfl) ?_
  have hz:Z=false:=by rw[hZ];simp[z48,c7]
  simp(maxSteps:=1000000) (disch:=first|omega|(simp;done)|(simp;omega)) [z9a,z1a,z0a,hQ1,hQ9,hz]
 rw[hT];clear hT
 have hz:Z=(x.gone==y.gone):=by
  rw[←z9lc,hZ]
  simp[z48,c1,c2,c3,c4,c5,c6,c7]
 simp(maxSteps:=1000000) (disch:=first|omega|(simp;done)|(simp;omega)) [z9a,z1a,z0a,z8pa,hl,hl',h28,h29,h28',h29',hg,hg',eqd,hd,hd',h133,h301,h132,p1,q1,p2,q2,z8Ya,c1,c2,c3,c4,c5,c6,c7,hQ1,hQ9,hz]
end Go.Abs
end

section
namespace Go.Abs
theorem z3Nd (E:Env):∀ds,z1F.pre ds→ds.length=z1o.n∧awp E z1o.body (z0m z1o.res (z1F.post ds)) (z3b z1o.wr ds):=by
 rintro _ ⟨nl,nl',a,b,ha,rfl⟩
 by_cases h:a.length=b.length
 rotate_left
 ·have:(a==b)=false:=by simpa using fun e:a=b=>h (by rw[e])
  have h':¬((a.length:Int)=b.length):=by omega
  simp(maxSteps:=1000000) (disch:=first|omega|(simp;done)|(simp;omega)) [z9a,z1a,z0a,z1o,z9K,z2N,h',kT,kF,z1F,this]
 have h':((a.length:Int)=b.length):=by omega
 simp(maxSteps:=1000000) (disch:=first|omega|(simp;done)|(simp;omega)) [z9a,z1a,z0a,z1o,z9K,z2N,z3ca,h',kT,kF]
 refine z4a fun Q0 hQ0=> ?_
 simp(maxSteps:=1000000) (disch:=first|omega|(simp;done)|(simp;omega)) [z9a,z1a,z0a,z5da]
 refine z4e (fun i:Nat=>⟨[(0,.sl .plain nl a.length (z9p a)),(1,.sl .plain nl' b.length (z9p b))],[(12,i64 a.length),(13,i64 i)],[]⟩)
  (fun i=>a.length-i) (fun i=>i≤a.length∧a.take i=b.take i) 0 (by simp[h']) (by simp) fun i hi=> ?_
 obtain⟨hi,he⟩:=hi
 refine z4a fun Q1 hQ1=> ?_
 by_cases h1':i<a.length
 ·have h3:i<b.length:=by omega
  by_cases h2:atI a i=atI b i
  ·simp(maxSteps:=1000000) (disch:=first|omega|(simp;done)|(simp;omega)) [z9a,z1a,z0a,z9z,z5z,z7L,z8M,z7K,kT,kF,dT,dF,z5Ia,h1',h2,hQ1]
   have h4:a[i]=b[i]:=by simpa[atI,List.getD,List.getElem?_eq_getElem h1',List.getElem?_eq_getElem h3] using h2
   exact⟨by omega,by omega,by omega,i+1,by omega,⟨by omega,by rw[List.take_succ_eq_append_getElem h1',List.take_succ_eq_append_getElem h3,he,h4]⟩,by omega⟩
  ·have:(a==b)=false:=by simpa using fun e:a=b=>h2 (by rw[e])
   simp(maxSteps:=1000000) (disch:=first|omega|(simp;done)|(simp;omega)) [z9a,z1a,z0a,z9z,z5z,z7L,z8M,z7K,kT,kF,dT,dF,z5Ia,h1',h2,hQ1,hQ0,z1F,this]
   omega
 ·have e:i=a.length:=by omega
  subst e
  have:(a==b)=true:=by
   rw[List.take_length,h,List.take_length] at he
   simpa using he
  simp(maxSteps:=1000000) (disch:=first|omega|(simp;done)|(simp;omega)) [z9a,z1a,z0a,z9z,z5z,kT,kF,dT,dF,hQ1,hQ0,z6fa,z1F,this]
end Go.Abs
end

section
namespace Go.Abs
theorem z0Q {P:Nat×Bool→Prop} {l m:List (Nat×Bool)} (h:l.all (fun p=>m.contains p)=true) (hm:∀p∈m,P p):∀p∈l,P p:=fun p hp=>by
 have:=List.all_eq_true.1 h p hp
 exact hm p (by simpa using this)
end Go.Abs
end

section
namespace Go.Abs
def VBs (K:Cx):List (Nat×Bool)→Prop
 |[]=>True
 |p::l=>VB K p∧VBs K l
theorem z9ec {K:Cx}:∀{l:List (Nat×Bool)},VBs K l→∀p∈l,VB K p
 |[],_,_,h=>by cases h
 |q::l,hl,p,h=>by
  rcases List.mem_cons.1 h with rfl|h
  ·exact hl.1
  ·exact z9ec hl.2 p h
theorem z4Kc {K:Cx} {a l:List (Nat×Bool)} (hc:a.all (fun p=>l.contains p)=true) (h:VBs K l):∀p∈a,VB K p:=fun p hp=>
 z9ec h p (by simpa using List.all_eq_true.1 hc p hp)
theorem z0he {P:Nat×Bool→Prop} {f:Nat} {l m:List (Nat×Bool)} (h:l.all (fun p=>p==(f,false)||m.contains p)=true) (hm:∀p∈m,P p):∀p∈l,p≠(f,false)→P p:=fun p hp hn=>by
 have:=List.all_eq_true.1 h p hp
 rw[Bool.or_eq_true] at this
 rcases this with h1|h1
 ·exact absurd (by simpa using h1) hn
 ·exact hm p (by simpa using h1)
section
variable {K : Cx} {f : Nat} {fn : Func} {F : z6e}
theorem fV {c:z5a} (l:List (Nat×Bool)) (hf:K.P.funcs[K.nu f]? =some fn) (hc:(z2f K F fn&&(z7b F.body).all (fun p=>l.contains p)&&z6m F.body)=true) (hv:VBs K l) (h:∀ds,c.pre ds→ds.length=F.n∧awp K.E F.body (z0m F.res (c.post ds)) (z3b F.wr ds)):z6a K f c:=by
 simp only[Bool.and_eq_true] at hc
 exact z79 hf hc.1.1 (z4Kc hc.1.2 hv) h hc.2
end
end Go.Abs
end

section
namespace Go.Abs

inductive GT where
 |bool
 |int (k:IntKind)
 |str
 |sl (e:GT)
 |arr (n:Nat) (e:GT)
 |st (fs:List GT)

mutual
def GT.has:GT→List z2a→Prop
 | .bool,cs=>∃b,cs=[.lit (.bool b)]
 | .int k,cs=>∃n,cs=[.lit (.int k n)]∧k.min≤n∧n≤k.max
 | .str,cs=>∃s:ByteArray,cs=[.lit (.string s)]∧s.size≤maxLen
 | .sl e,cs=>∃ess:List (List z2a),(∀c∈ess,e.has c)∧cs=[.sl .plain none ess.length ess.flatten]∧ess.length≤maxLen
 | .arr n e,cs=>∃ess:List (List z2a),ess.length=n∧(∀c∈ess,e.has c)∧cs=ess.flatten
 | .st fs,cs=>GT.hasL fs cs
def GT.hasL:List GT→List z2a→Prop
 |[],cs=>cs=[]
 |f::fs,cs=>∃a b,cs=a++b∧f.has a∧GT.hasL fs b
end

mutual
def GT.flat:GT→Bool
 | .sl _=>false
 | .arr _ e=>e.flat
 | .st fs=>GT.flatL fs
 |_=>true
def GT.flatL:List GT→Bool
 |[]=>true
 |f::fs=>f.flat&&GT.flatL fs
end

mutual
def GT.fits (P:Program):GT→TypeId→Bool
 | .bool,t=>match P.underlying t with|some .bool=>true|_=>false
 | .int k,t=>match P.underlying t with|some (.int k')=>k==k'|_=>false
 | .str,t=>match P.underlying t with|some .string=>true|_=>false
 | .sl e,t=>match P.underlying t with|some (.slice t')=>e.fits P t'&&(P.cellsOf t' !=0)|_=>false
 | .arr n e,t=>match P.underlying t with|some (.array n' t')=>n==n'&&e.fits P t'|_=>false
 | .st fs,t=>match P.underlying t with|some (.struct F)=>GT.fitsL P fs (F.toList.map (·.type))|_=>false
def GT.fitsL (P:Program):List GT→List TypeId→Bool
 |[],[]=>true
 |f::fs,t::ts=>f.fits P t&&GT.fitsL P fs ts
 |_,_=>false
end

mutual
def wt:z2a→Nat
 | .lit (.string s)=>s.size+1
 | .sl _ _ _ cs=>wtL cs+1
 | .agg cs=>wtL cs
 |_=>1
def wtL:List z2a→Nat
 |[]=>0
 |c::cs=>wt c+wtL cs
end
theorem z3D (a b:List z2a):wtL (a++b)=wtL a+wtL b:=by
 induction a with
 |nil=>simp[wtL]
 |cons x a ih=>simp only[List.cons_append,wtL,ih];omega

structure z4id {H:Type} (B:DataW H→Nat):Prop where
 lit:∀l,1≤B (.lit l)
 str:∀l,l.length+1≤B (.lit (.string l))
 nil:1≤B .nil
 slice:∀es sp,(es.map B).sum+1≤B (.slice es sp)
 agg:∀ps,(ps.map B).sum≤B (.agg ps)

section
variable {H : Type} {enc : TypeId × Value → H} {K : Cx} {S : Nat → Nat} {W : World} {B : DataW H → Nat}

theorem z8c.app {K:Con} {S:Nat→Nat} {w:World}:∀{ds ds':List z2a} {vs vs':List Value},z8c K S w ds vs→z8c K S w ds' vs'→z8c K S w (ds++ds') (vs++vs')
 |[],_,vs,_,h,h'=>by simp only[z8c] at h;subst h;simpa using h'
 |c::cs,_,vs,_,h,h'=>by
  simp only[z8c] at h
  obtain⟨x,xs,rfl,h1,h2⟩:=h
  simp only[List.cons_append,z8c]
  exact⟨x,xs++_,rfl,h1,z8c.app h2 h'⟩

noncomputable def z5Ja (w:World):Nat→Nat:=fun b=>match w.heap[b]? with|some (.cells c _ _)=>c.size|_=>0
theorem z12b {w:World} {b o:Nat} {x:Value} (h:w.cell? ⟨b,o,none⟩=some x):o<z5Ja w b:=by
 unfold World.cell? at h
 unfold z5Ja
 cases hb:w.heap[b]? with
 |none=>simp[hb] at h
 |some q=>
  cases q with
  |cells c e fr=>
   simp[hb] at h
   exact(Array.getElem?_eq_some_iff.1 h).1
  |_=>simp[hb] at h

theorem z2Qb {b off sz:Nat} {cs:List (List Value)} {as:List (List z2a)} (hl:as.length=cs.length) (hsz:∀(i:Nat) c,cs[i]? =some c→c.length=sz)
  (hc:∀(i:Nat) c,cs[i]? =some c→∀j,j<sz→W.cell? ⟨b,off+i*sz+j,none⟩=c[j]?) (hr:∀(i:Nat) a c,as[i]? =some a→cs[i]? =some c→z8c K.toCon (z5Ja W) W a c):
  z9d K.toCon (z5Ja W) W as.flatten b off:=by
 induction as generalizing cs off with
 |nil=>simp[z9d]
 |cons a as ih=>
  cases cs with
  |nil=>simp at hl
  |cons c cs=>
   have h0:=hr 0 a c rfl rfl
   have hlen:=h0.len
   have hcs:=hsz 0 c rfl
   have hrest:=ih (off:=off+sz) (cs:=cs) (by simpa using hl) (fun i c hi=>hsz (i+1) c (by simpa using hi)) (fun i c hi j hj=>by
    have:=hc (i+1) c (by simpa using hi) j hj
    rw[Nat.add_mul,Nat.one_mul] at this
    rw[←this]
    congr 2
    omega) (fun i a c hi hi'=>hr (i+1) a c (by simpa using hi) (by simpa using hi'))
   rw[List.flatten_cons]
   refine z9d.mk fun i d hd=> ?_
   rcases Nat.lt_or_ge i a.length with h|h
   ·rw[List.getElem?_append_left h] at hd
    obtain⟨v,hv,hp⟩:=h0.get i d hd
    have hcell:=hc 0 c rfl i (by omega)
    rw[Nat.zero_mul,Nat.add_zero,hv] at hcell
    exact⟨z12b hcell,v,hcell,hp⟩
   ·rw[List.getElem?_append_right h] at hd
    have:=hrest.get _ d hd
    rw[show off+sz+(i-a.length)=off+i by omega] at this
    exact this

theorem z7ha {α β:Type} {R:α→β→Prop}:∀(l:List α),(∀x∈l,∃y,R x y)→∃r:List β,r.length=l.length∧∀(i:Nat) x y,l[i]? =some x→r[i]? =some y→R x y
 |[],_=>⟨[],rfl,fun i x y h=>by simp at h⟩
 |x::l,h=>by
  obtain⟨y,hy⟩:=h x (by simp)
  obtain⟨r,h1,h2⟩:=z7ha l fun z hz=>h z (by simp[hz])
  refine⟨y::r,by simp[h1],fun i a b ha hb=> ?_⟩
  cases i with
  |zero=>simp at ha hb;subst ha;subst hb;exact hy
  |succ i=>exact h2 i a b (by simpa using ha) (by simpa using hb)

theorem z37b {α β:Type} {f:α→Nat} {g:β→Nat}:∀{l:List α} {r:List β},l.length=r.length→(∀(i:Nat) a b,l[i]? =some a→r[i]? =some b→f a≤g b)→(l.map f).sum≤(r.map g).sum
 |[],[],_,_=>by simp
 |[],_::_,h,_=>by simp at h
 |_::_,[],h,_=>by simp at h
 |x::l,y::r,h,hi=>by
  have h1:=hi 0 x y rfl rfl
  have h2:=z37b (l:=l) (r:=r) (by simpa using h) fun i a b ha hb=>hi (i+1) a b (by simpa using ha) (by simpa using hb)
  simp only[List.map_cons,List.sum_cons]
  omega
theorem z11a (l:List (List z2a)):wtL l.flatten=(l.map wtL).sum:=by
 induction l with
 |nil=>simp[wtL]
 |cons x l ih=>simp[z3D,ih]

theorem z06b {sp:Nat→Bool} {fuel:Nat} {e:GT} {t:TypeId} (sz:Nat)
  (one:∀(cs:List Value) d p,DataW.trod enc K.P W 0 sp true fuel t cs=some (d,p)→∃as,e.has as∧z8c K.toCon (z5Ja W) W as cs∧wtL as≤B d)
  {css:List (List Value)} {xs:List (DataW H×List MemPlace)} (hlen:xs.length=css.length) (hx:∀(i:Nat) c,css[i]? =some c→DataW.trod enc K.P W 0 sp true fuel t c=xs[i]?):
  ∃ess:List (List z2a),ess.length=css.length∧(∀c∈ess,e.has c)∧(∀(i:Nat) a c,ess[i]? =some a→css[i]? =some c→z8c K.toCon (z5Ja W) W a c)∧wtL ess.flatten≤((xs.map (·.1)).map B).sum:=by
 obtain⟨ess,h1,h2⟩:=z7ha (R:=fun(i:Nat) (as:List z2a)=>∃c x,css[i]? =some c∧xs[i]? =some x∧e.has as∧z8c K.toCon (z5Ja W) W as c∧wtL as≤B x.1) (List.range css.length) fun i hi=>by
  have hi:i<css.length:=by simpa using hi
  have hc:css[i]? =some css[i]:=List.getElem?_eq_getElem hi
  have hxi:xs[i]? =some xs[i]:=List.getElem?_eq_getElem (by omega)
  have:=hx i _ hc
  rw[hxi] at this
  obtain⟨as,k1,k2,k3⟩:=one _ xs[i].1 xs[i].2 this
  exact⟨as,_,_,hc,hxi,k1,k2,k3⟩
 have hl1:ess.length=css.length:=by simpa using h1
 have g:∀(i:Nat) a,ess[i]? =some a→∃c x,css[i]? =some c∧xs[i]? =some x∧e.has a∧z8c K.toCon (z5Ja W) W a c∧wtL a≤B x.1:=fun i a ha=>by
  have hi:i<ess.length:=(List.getElem?_eq_some_iff.1 ha).1
  exact h2 i i a (List.getElem?_range (by omega)) ha
 refine⟨ess,hl1,fun a ha=> ?_,fun i a c ha hc=> ?_,?_⟩
 ·obtain⟨i,hi,rfl⟩:=List.getElem_of_mem ha
  obtain⟨_,_,_,_,k,_⟩:=g i _ (List.getElem?_eq_getElem hi)
  exact k
 ·obtain⟨c',_,k1,_,_,k2,_⟩:=g i a ha
  rw[hc] at k1
  cases k1
  exact k2
 ·rw[z11a,List.map_map]
  refine z37b (by omega) fun i a x ha hxi=> ?_
  obtain⟨_,x',_,k1,_,_,k2⟩:=g i a ha
  rw[hxi] at k1
  cases k1
  exact k2

mutual
theorem read (hB:z4id B) (hl:laidOutB K.P=true) {sp:Nat→Bool}:∀(gt:GT) (fuel:Nat) (t:TypeId) (cs:List Value) (d:DataW H) (p:List MemPlace),DataW.trod enc K.P W 0 sp true fuel t cs=some (d,p)→gt.fits K.P t=true→t<K.P.types.size→
  (∀b,sp b=true)→∃as,gt.has as∧z8c K.toCon (z5Ja W) W as cs∧wtL as≤B d
 |gt,0,t,cs,d,p,h,_,_,_=>by simp[DataW.trod] at h
 | .bool,fuel+1,t,cs,d,p,h,hf,ht,hs=>by
  simp only[GT.fits] at hf
  split at hf
  ·rename_i hu
   simp only[DataW.trod,hu] at h
   split at h<;>simp_all
   obtain⟨rfl,rfl⟩:=h
   rename_i b
   exact⟨[.lit (.bool b)],⟨b,rfl⟩,by simp[z8c,z6c],by have:=hB.lit (.bool b);simpa[wtL,wt] using this⟩
  ·cases hf
 | .int k,fuel+1,t,cs,d,p,h,hf,ht,hs=>by
  simp only[GT.fits] at hf
  split at hf
  ·rename_i k' hu
   simp only[beq_iff_eq] at hf
   subst hf
   obtain⟨n,rfl,hx,hw⟩:=DataW.trod_int hu h
   cases hx
   simp only[Lit.wf,Bool.and_eq_true,decide_eq_true_eq] at hw
   exact⟨_,⟨n,rfl,hw.1,hw.2⟩,by simp[z8c,z6c],by have:=hB.lit (.int k n);simpa[wtL,wt] using this⟩
  ·cases hf
 | .str,fuel+1,t,cs,d,p,h,hf,ht,hs=>by
  simp only[GT.fits] at hf
  split at hf
  ·rename_i hu
   obtain⟨s,rfl,hx,hw⟩:=DataW.trod_string hu h
   cases hx
   refine⟨[.lit (.string s)],⟨s,rfl,hw⟩,by simp only[z8c,z6c];exact⟨_,_,rfl,rfl,rfl⟩,?_⟩
   have:=hB.str s.data.toList
   have e:s.data.toList.length=s.size:=Array.length_toList
   simp only[wtL,wt]
   omega
  ·cases hf
 | .sl e,fuel+1,t,cs,d,p,h,hf,ht,hs=>by
  simp only[GT.fits] at hf
  split at hf
  ·rename_i t' hu
   simp only[Bool.and_eq_true,bne_iff_ne,ne_eq] at hf
   obtain⟨hf,hz⟩:=hf
   have ht':=kid_slice hl ht hu
   simp only[DataW.trod,hu] at h
   have nilc:cs=[.slice none 0 0]→d= .nil→∃as,(GT.sl e).has as∧z8c K.toCon (z5Ja W) W as cs∧wtL as≤B d:=by
    rintro rfl rfl
    refine⟨[.sl .plain none 0 []],⟨[],by simp,rfl,Nat.zero_le _⟩,by simp only[z8c,z6c];exact⟨_,_,rfl,.inr ⟨none,by simp⟩,rfl⟩,?_⟩
    have:=hB.nil
    simpa[wtL,wt] using this
   split at h
   all_goals (try (simp only[reduceCtorEq,Option.some.injEq,TypeDesc.slice.injEq,Prod.mk.injEq] at h))
   all_goals (try (rename_i hh;simp only[reduceCtorEq,Option.some.injEq,TypeDesc.slice.injEq] at hh))
   ·exact nilc rfl h.1.symm
   ·subst hh
    rename_i a len cap
    split at h
    ·rename_i hb
     obtain⟨hb0,hlc,hcap⟩:=hb
     simp only[Option.bind_eq_some_iff,Option.map_eq_some_iff] at h
     obtain⟨elems,hel,rest,hrest,hd⟩:=h
     cases hd
     have hlen:=mapM_some_length hel
     cases hsp:a.spot with
     |some s0=>
      rw[if_pos (hs _)] at hrest
      have bad:∀x,((W.cells? 0 (a.add (0*K.P.cellsOf t')) (K.P.cellsOf t')).bind (DataW.trod enc K.P W 0 sp true fuel t'))=some x→False:=fun x hx=>by
       obtain⟨c,h2,_⟩:=Option.bind_eq_some_iff.1 hx
       obtain⟨_,h3,h4⟩:=World.cells?_some h2
       have:=h4 0 (by omega)
       have h5:W.cell? ((a.add (0*K.P.cellsOf t')).add 0)=none:=by
        unfold World.cell?
        split
        ·rw[if_pos (by simp[Addr.add,hsp,Nat.zero_mul])]
        ·rfl
       rw[h5] at this
       have h6:=List.getElem?_eq_none_iff.1 this.symm
       omega
      have hc0:cap=0:=by
       rcases Nat.eq_zero_or_pos cap with h0|h0
       ·exact h0
       ·exfalso
        rcases Nat.eq_zero_or_pos len with hl0|hl0
        ·have h1:=mapM_some_get hrest 0 0 (List.getElem?_range (by omega))
         cases hr:rest[0]? with
         |none=>
          have:=mapM_some_length hrest
          have h7:=List.getElem?_eq_none_iff.1 hr
          simp at this
          omega
         |some x=>rw[hr] at h1;exact bad x (by simpa[hl0] using h1)
        ·have h1:=mapM_some_get hel 0 0 (List.getElem?_range (by omega))
         cases hr:elems[0]? with
         |none=>
          have h7:=List.getElem?_eq_none_iff.1 hr
          simp at hlen
          omega
         |some x=>rw[hr] at h1;exact bad x h1
      have hl0:len=0:=by omega
      subst hc0 hl0
      refine⟨[.sl .plain none 0 []],⟨[],by simp,rfl,Nat.zero_le _⟩,by simp only[z8c,z6c];exact⟨_,_,rfl,.inr ⟨some a,by simp⟩,rfl⟩,?_⟩
      have:=hB.slice (elems.map (·.1)) (rest.map (·.1))
      simp only[wtL,wt]
      omega
     |none=>
     obtain⟨b,off,spot⟩:=a
     simp only at hsp
     subst hsp
     have hget:∀i,i<len→∃c,W.cells? 0 ((⟨b,off,none⟩:Addr).add (i*K.P.cellsOf t')) (K.P.cellsOf t')=some c∧DataW.trod enc K.P W 0 sp true fuel t' c=elems[i]? :=fun i hi=>by
      have h1:=mapM_some_get hel i i (by simp[hi])
      have hi':i<elems.length:=by rw[hlen];simpa using hi
      rw[List.getElem?_eq_getElem hi'] at h1
      obtain⟨c,h2,h3⟩:=Option.bind_eq_some_iff.1 h1
      exact⟨c,h2,by rw[h3,List.getElem?_eq_getElem hi']⟩
     obtain⟨css,hcl,hcs⟩:=z7ha (R:=fun(i:Nat) (c:List Value)=>W.cells? 0 ((⟨b,off,none⟩:Addr).add (i*K.P.cellsOf t')) (K.P.cellsOf t')=some c∧DataW.trod enc K.P W 0 sp true fuel t' c=elems[i]?) (List.range len) (fun i hi=>hget i (by simpa using hi))
     simp only[List.length_range] at hcl hlen
     have hcs':∀(i:Nat) c,css[i]? =some c→W.cells? 0 ((⟨b,off,none⟩:Addr).add (i*K.P.cellsOf t')) (K.P.cellsOf t')=some c∧DataW.trod enc K.P W 0 sp true fuel t' c=elems[i]? :=fun i c hc=>by
      have hi:i<css.length:=(List.getElem?_eq_some_iff.1 hc).1
      exact hcs i i c (List.getElem?_range (by omega)) hc
     obtain⟨ess,k1,k2,k3,k4⟩:=z06b (K.P.cellsOf t') (fun c d p hh=>read hB hl e fuel t' c d p hh hf ht' hs) (css:=css) (xs:=elems) (by omega) (fun i c hc=>(hcs' i c hc).2)
     refine⟨_,⟨ess,k2,rfl,by omega⟩,?_,?_⟩
     ·simp only[z8c,z6c]
      refine⟨_,_,rfl,.inl ⟨b,off,cap,by rw[k1,hcl],by omega,?_,by simp,by simp⟩,rfl⟩
      refine z2Qb (cs:=css) (sz:=K.P.cellsOf t') k1 (fun i c hc=>(World.cells?_some (hcs' i c hc).1).2.1) (fun i c hc j hj=> ?_) k3
      have:=(World.cells?_some (hcs' i c hc).1).2.2 j hj
      rw[←this,Addr.add_mid,Addr.add_mid]
     ·have:=hB.slice (elems.map (·.1)) (rest.map (·.1))
      simp only[wtL,wt]
      omega
    ·cases h
   all_goals simp_all
  ·cases hf
 | .arr n e,fuel+1,t,cs,d,p,h,hf,ht,hs=>by
  simp only[GT.fits] at hf
  split at hf
  ·rename_i n' t' hu
   simp only[Bool.and_eq_true,beq_iff_eq] at hf
   obtain⟨rfl,hf⟩:=hf
   obtain⟨ht',hct⟩:=kid_array hl ht hu
   simp only[DataW.trod,hu] at h
   split at h
   ·rename_i hlen
    simp only[Option.map_eq_some_iff] at h
    obtain⟨xs,hm,hd⟩:=h
    cases hd
    have hxl:=mapM_some_length hm
    simp only[List.length_range] at hxl
    let css:=(List.range n).map fun i=>(cs.drop (i*K.P.cellsOf t')).take (K.P.cellsOf t')
    have hcss:∀(i:Nat) c,css[i]? =some c→i<n∧c=(cs.drop (i*K.P.cellsOf t')).take (K.P.cellsOf t'):=fun i c hc=>by
     simp only[css,List.getElem?_map,Option.map_eq_some_iff] at hc
     obtain⟨j,hj,rfl⟩:=hc
     obtain⟨h1,h2⟩:=List.getElem?_eq_some_iff.1 hj
     simp only[List.length_range] at h1
     simp only[List.getElem_range] at h2
     subst h2
     exact⟨h1,rfl⟩
    obtain⟨ess,h1,h2⟩:=z7ha (R:=fun(i:Nat) (as:List z2a)=>∃c x,css[i]? =some c∧xs[i]? =some x∧e.has as∧z8c K.toCon (z5Ja W) W as c∧wtL as≤B x.1) (List.range n) fun i hi=>by
     have hi:i<n:=by simpa using hi
     have hc:css[i]? =some ((cs.drop (i*K.P.cellsOf t')).take (K.P.cellsOf t')):=by simp[css,hi]
     have hxi:xs[i]? =some xs[i]:=List.getElem?_eq_getElem (by omega)
     have:=mapM_some_get hm i i (by simp[hi])
     rw[hxi] at this
     obtain⟨as,k1,k2,k3⟩:=read hB hl e fuel t' _ xs[i].1 xs[i].2 this hf ht' hs
     exact⟨as,_,_,hc,hxi,k1,k2,k3⟩
    have hl1:ess.length=n:=by simpa using h1
    have g:∀(i:Nat) a,ess[i]? =some a→∃c x,css[i]? =some c∧xs[i]? =some x∧e.has a∧z8c K.toCon (z5Ja W) W a c∧wtL a≤B x.1:=fun i a ha=>by
     have hi:i<ess.length:=(List.getElem?_eq_some_iff.1 ha).1
     exact h2 i i a (List.getElem?_range (by omega)) ha
    refine⟨_,⟨ess,hl1,fun a ha=> ?_,rfl⟩,?_,?_⟩
    ·obtain⟨i,hi,rfl⟩:=List.getElem_of_mem ha
     obtain⟨_,_,_,_,k,_⟩:=g i _ (List.getElem?_eq_getElem hi)
     exact k
    ·have flat:∀(k:Nat) (l:List (List z2a)),(∀(i:Nat) a,l[i]? =some a→z8c K.toCon (z5Ja W) W a ((cs.drop ((k+i)*K.P.cellsOf t')).take (K.P.cellsOf t')))→k+l.length=n→z8c K.toCon (z5Ja W) W l.flatten (cs.drop (k*K.P.cellsOf t')):=by
      intro k l
      induction l generalizing k with
      |nil=>
       intro _ hk
       simp only[List.length_nil,Nat.add_zero] at hk
       rw[hk,List.drop_of_length_le (by omega)]
       simp[z8c]
      |cons a l ih=>
       intro hi hk
       have h0:=hi 0 a rfl
       have hr:=ih (k+1) (fun i a ha=>by
        have:=hi (i+1) a (by simpa using ha)
        rwa[show k+(i+1)=k+1+i by omega] at this) (by simp at hk;omega)
       rw[Nat.add_zero] at h0
       have e1:cs.drop (k*K.P.cellsOf t')=(cs.drop (k*K.P.cellsOf t')).take (K.P.cellsOf t')++cs.drop ((k+1)*K.P.cellsOf t'):=by
        rw[Nat.add_mul,Nat.one_mul,←List.drop_drop,List.take_append_drop]
       rw[e1,List.flatten_cons]
       exact z8c.app h0 hr
     have:=flat 0 ess (fun i a ha=>by
      obtain⟨c,_,k1,_,_,k2,_⟩:=g i a ha
      rw[Nat.zero_add]
      rwa[(hcss i c k1).2] at k2) (by omega)
     simpa using this
    ·rw[z11a]
     refine Nat.le_trans ?_ (hB.agg (xs.map (·.1)))
     rw[List.map_map]
     refine z37b (by omega) fun i a x ha hxi=> ?_
     obtain⟨_,x',_,k1,_,_,k2⟩:=g i a ha
     rw[hxi] at k1
     cases k1
     exact k2
   ·cases h
  ·cases hf
 | .st fs,fuel+1,t,cs,d,p,h,hf,ht,hs=>by
  simp only[GT.fits] at hf
  split at hf
  ·rename_i F hu
   obtain⟨h1,h2,h3⟩:=kid_struct hl ht hu
   simp only[DataW.trod,hu] at h
   split at h
   ·rename_i hlen
    simp only[Option.map_eq_some_iff] at h
    obtain⟨xs,hm,hd⟩:=h
    cases hd
    obtain⟨as,k1,k2,k3⟩:=z4Gd hB hl fs F.toList 0 fuel cs xs hm hf h1 (fun j f hj=>by rw[h3 j f hj,Nat.zero_add]) hs (by rw[Nat.zero_add,←h2,hlen];exact Nat.le_refl _)
    refine⟨as,k1,?_,Nat.le_trans k3 (hB.agg _)⟩
    rw[List.drop_zero,List.take_of_length_le (by omega)] at k2
    exact k2
   ·cases h
  ·cases hf
theorem z4Gd (hB:z4id B) (hl:laidOutB K.P=true) {sp:Nat→Bool}:∀(gs:List GT) (F:List Field) (off:Nat) (fuel:Nat) (cs:List Value) (xs:List (DataW H×List MemPlace)),
  F.mapM (fun f=>DataW.trod enc K.P W 0 sp true fuel f.type ((cs.drop f.offset).take (K.P.cellsOf f.type)))=some xs→GT.fitsL K.P gs (F.map (·.type))=true→(∀f∈F,f.type<K.P.types.size)→
  (∀(j:Nat) f,F[j]? =some f→f.offset=off+((F.take j).map fun f=>K.P.cellsOf f.type).sum)→(∀b,sp b=true)→off+(F.map fun f=>K.P.cellsOf f.type).sum≤cs.length→
  ∃as,GT.hasL gs as∧z8c K.toCon (z5Ja W) W as ((cs.drop off).take (F.map fun f=>K.P.cellsOf f.type).sum)∧wtL as≤((xs.map (·.1)).map B).sum
 |[],[],off,fuel,cs,xs,hm,hf,ht,ho,hs,hc=>by
  simp at hm
  subst hm
  exact⟨[],by simp[GT.hasL],by simp[z8c],by simp[wtL]⟩
 |[],_::_,off,fuel,cs,xs,hm,hf,ht,ho,hs,hc=>by simp[GT.fitsL] at hf
 |_::_,[],off,fuel,cs,xs,hm,hf,ht,ho,hs,hc=>by simp[GT.fitsL] at hf
 |g::gs,f::F,off,fuel,cs,xs,hm,hf,ht,ho,hs,hc=>by
  simp only[List.map_cons,GT.fitsL,Bool.and_eq_true] at hf
  simp only[List.mapM_cons,Option.bind_eq_bind,Option.bind_eq_some_iff,Option.pure_def,Option.some.injEq] at hm
  obtain⟨x,hx,xs',hm',rfl⟩:=hm
  have h0:=ho 0 f rfl
  simp only[List.take_zero,List.map_nil,List.sum_nil,Nat.add_zero] at h0
  simp only[List.map_cons,List.sum_cons] at hc
  obtain⟨as,k1,k2,k3⟩:=read hB hl g fuel f.type _ x.1 x.2 hx hf.1 (ht f (by simp)) hs
  obtain⟨bs,m1,m2,m3⟩:=z4Gd hB hl gs F (off+K.P.cellsOf f.type) fuel cs xs' hm' hf.2 (fun f' hf'=>ht f' (by simp[hf'])) (fun j f' hj=>by
   have:=ho (j+1) f' (by simpa using hj)
   simp only[List.take_succ_cons,List.map_cons,List.sum_cons] at this
   omega) hs (by omega)
  refine⟨as++bs,⟨as,bs,rfl,k1,m1⟩,?_,?_⟩
  ·rw[h0] at k2
   rw[List.map_cons,List.sum_cons,List.take_add,List.drop_drop]
   exact z8c.app k2 m2
  ·rw[z3D]
   simp only[List.map_cons,List.sum_cons]
   omega
end
end
end Go.Abs
end

section
namespace Go.Abs
open Go.RowKit Go.WideShapes Go.ChangeShapes

def GT.row:GT→Bool
 | .arr _ _=>true
 | .st _=>true
 |_=>false
def GT.top (g:GT) (cs:List z2a):z2a:=if g.row then .agg cs else cs.headD .undef
def z2hd:List GT→List z2a→Prop
 |[],as=>as=[]
 |g::gs,as=>∃cs r,as=g.top cs::r∧g.has cs∧z2hd gs r

section
variable {H : Type} {enc : TypeId × Value → H} {K : Cx} {W : World} {B : DataW H → Nat}

theorem z1pc (hB:z4id B) (hl:laidOutB K.P=true) {sp:Nat→Bool} {base:Nat} {g:GT} {t:TypeId} {v:Value} {d:DataW H} {p:List MemPlace} (hok:Value.okWide K.P W .any base t v)
  (h:DataW.Trod enc K.P W 0 sp true t v d p) (hf:g.fits K.P t=true) (ht:t<K.P.types.size) (hs:∀b,sp b=true):∃cs,g.has cs∧z6c K.toCon (z5Ja W) W (g.top cs) v∧wtL cs≤B d:=by
 obtain⟨fuel,h⟩:=h
 have row:g.row=true→(∃a,v= .agg a)→∃cs,g.has cs∧z6c K.toCon (z5Ja W) W (g.top cs) v∧wtL cs≤B d:=by
  rintro hr ⟨a,rfl⟩
  obtain⟨cs,k1,k2,k3⟩:=read hB hl g fuel t _ d p h hf ht hs
  refine⟨cs,k1,?_,k3⟩
  rw[GT.top,if_pos hr]
  simp only[z6c]
  exact⟨a,rfl,k2⟩
 have one:g.row=false→v.cells= #[v]→∃cs,g.has cs∧z6c K.toCon (z5Ja W) W (g.top cs) v∧wtL cs≤B d:=by
  intro hr hc
  rw[hc] at h
  obtain⟨cs,k1,k2,k3⟩:=read hB hl g fuel t _ d p h hf ht hs
  refine⟨cs,k1,?_,k3⟩
  rw[GT.top,if_neg (by simp[hr])]
  cases cs with
  |nil=>simp[z8c] at k2
  |cons c r=>
   simp only[z8c] at k2
   obtain⟨x,xs,e,k4,_⟩:=k2
   simp only[List.cons.injEq] at e
   rw[e.1]
   exact k4
 cases g with
 |bool=>
  simp only[GT.fits] at hf
  split at hf
  ·rename_i hu
   obtain⟨b,rfl⟩:=okWide_bool hu hok
   exact one rfl rfl
  ·cases hf
 |int k=>
  simp only[GT.fits] at hf
  split at hf
  ·rename_i k' hu
   obtain⟨b,rfl⟩:=okWide_int hu hok
   exact one rfl rfl
  ·cases hf
 |str=>
  simp only[GT.fits] at hf
  split at hf
  ·rename_i hu
   obtain⟨b,rfl⟩:=okWide_string hu hok
   exact one rfl rfl
  ·cases hf
 |sl e=>
  simp only[GT.fits] at hf
  split at hf
  ·rename_i t' hu
   obtain⟨a,n,c,rfl⟩:=okWide_slice hu hok
   exact one rfl rfl
  ·cases hf
 |arr n e=>
  simp only[GT.fits] at hf
  split at hf
  ·rename_i n' t' hu
   have hok':=hok
   simp only[Value.okWide,hu] at hok'
   obtain⟨cs,rfl,_,h3⟩:=hok'
   exact row rfl ⟨cs,rfl⟩
  ·cases hf
 |st fs=>
  simp only[GT.fits] at hf
  split at hf
  ·rename_i F hu
   have hok':=hok
   simp only[Value.okWide,hu] at hok'
   obtain⟨cs,rfl,_,h3⟩:=hok'
   exact row rfl ⟨cs,rfl⟩
  ·cases hf

theorem z6sb (hB:z4id B) (hl:laidOutB K.P=true) {sp:Nat→Bool} {base:Nat}:∀(gs:List GT) (ts:List TypeId) (vs:List Value) (ds:List (DataW H)) (p:List MemPlace),
  DataW.TrodAll enc K.P W 0 sp true ts vs ds p→(∀(j:Nat) t v,ts[j]? =some t→vs[j]? =some v→Value.okWide K.P W .any base t v)→GT.fitsL K.P gs ts=true→(∀t∈ts,t<K.P.types.size)→(∀b,sp b=true)→
  ∃as,z2hd gs as∧z8c K.toCon (z5Ja W) W as vs∧wtL as≤(ds.map B).sum
 |[],[],vs,ds,p,h,_,_,_,_=>by
  obtain⟨rfl,rfl,rfl⟩:=trodAll_nil h
  exact⟨[],by simp[z2hd],by simp[z8c],by simp[wtL]⟩
 |[],_::_,_,_,_,_,_,hf,_,_=>by simp[GT.fitsL] at hf
 |_::_,[],_,_,_,_,_,hf,_,_=>by simp[GT.fitsL] at hf
 |g::gs,t::ts,vs,ds,p,h,hok,hf,ht,hs=>by
  obtain⟨v,vs',d,ds',p',q,rfl,rfl,rfl,h0,hr⟩:=trodAll_cons h
  simp only[GT.fitsL,Bool.and_eq_true] at hf
  obtain⟨cs,k1,k2,k3⟩:=z1pc hB hl (hok 0 t v rfl rfl) h0 hf.1 (ht t (by simp)) hs
  obtain⟨as,m1,m2,m3⟩:=z6sb hB hl gs ts vs' ds' q hr (fun j t v h1 h2=>hok (j+1) t v (by simpa using h1) (by simpa using h2)) hf.2 (fun t h=>ht t (by simp[h])) hs
  refine⟨g.top cs::as,⟨cs,as,rfl,k1,m1⟩,?_,?_⟩
  ·simp only[z8c]
   exact⟨v,vs',rfl,k2,m2⟩
  ·have:wt (g.top cs)≤wtL cs:=by
    unfold GT.top
    split
    ·simp[wt]
    ·cases cs with
     |nil=>
      have:z6c K.toCon (z5Ja W) W (g.top []) v:=k2
      cases g<;>simp_all [GT.has,GT.row]
     |cons c r=>simp[wtL]
   simp only[wtL,List.map_cons,List.sum_cons]
   omega
end

theorem z5cb {H:Type} {enc:TypeId×Value→H} {P:Program} {f:Func} {s:ChangeSpec} {apart fresh handsOn again:Bool} {W W':World} {args:Array Value} {v:Value} {ds gs:List (DataW H)} {before pa pv:List MemPlace}
  (hW:DataW.Whole enc P f.params.toList s.vars apart W args.toList ds gs before)
  (hres:∀(b:Nat) (sp:Nat→Bool) (hd:Bool),DataW.TrodAll enc P W' b sp hd f.resultTypes.toList (v.resultList f.resultTypes.size) (s.fn H (ds++gs)).results [])
  (hargs:∀sp:Nat→Bool,(∀p∈before,sp p.block=true)→DataW.TrodAll enc P W' 0 sp true f.params.toList args.toList (s.fn H (ds++gs)).args pa)
  (hvars:∀sp:Nat→Bool,(∀p∈before,sp p.block=true)→DataW.TrodVars enc P W' sp s.vars (s.fn H (ds++gs)).vars pv)
  (hps:before=pa++pv) (hb:Below W.heap.size W W')
  (hok:∀(j:Nat) (t:TypeId) (r:Value),f.resultTypes[j]? =some t→(v.resultList f.resultTypes.size)[j]? =some r→Value.okWide P W' .any 0 t r):
  s.post enc P f apart fresh handsOn again W args v W':=by
 have hlt:∀p∈before,p.block<W.heap.size:=fun p hp=>hW.lt p hp
 have hold:∀p∈before,(fun b=>decide (b<W.heap.size)) p.block=true:=fun p hp=>by simpa using hlt p hp
 refine⟨ds,gs,before,[],pa,pv,hW,hres _ _ _,hargs _ hold,hvars _ hold,World.keptBut_mono (fun p hp=>⟨hp,?_⟩) (hb.frame (· ∈before)),fun _=> ?_⟩
 ·rw[hps,List.mem_append] at hp
  exact Or.inr hp
 ·obtain⟨_,_,_,_,_,hz,hn⟩:=hW
  refine⟨hok,_,_,([]++pa)++pv,⟨[]++pa,pv,trodAll_append (hargs _ (fun _ _=>rfl)) (hres _ _ _),hvars _ (fun _ _=>rfl),rfl,?_,?_⟩,?_⟩
  ·intro b off hp
   have hin:MemPlace.cell b off∈before:=by rw[hps];simpa using hp
   rw[hb.frozen (hlt _ hin)]
   exact hz b off hin
  ·intro ha
   have:=hn ha
   rw[hps] at this
   simpa using this
  ·intro p hp _
   rw[hps]
   simpa using hp

section
variable {H : Type} {enc : TypeId × Value → H} {K : Cx} {B : DataW H → Nat}

theorem z0sb (hl:laidOutB K.P=true) {W W':World} (hb:Below W.heap.size W W') {sp:Nat→Bool}:∀(ts:List TypeId) (vs:List Value) (ds:List (DataW H)) (p:List MemPlace),
  (∀t∈ts,K.P.readableRec t=true∧t<K.P.types.size)→DataW.TrodAll enc K.P W 0 (fun _=>true) true ts vs ds p→(∀x∈p,x.block<W.heap.size∧sp x.block=true)→DataW.TrodAll enc K.P W' 0 sp true ts vs ds p
 |[],vs,ds,p,_,h,_=>by
  obtain⟨rfl,rfl,rfl⟩:=trodAll_nil h
  exact trodAll_mk0
 |t::ts,vs,ds,p,ht,h,hp=>by
  obtain⟨v,vs',d,ds',p',q,rfl,rfl,rfl,h0,hr⟩:=trodAll_cons h
  obtain⟨h1,h2⟩:=ht t (by simp)
  refine trodAll_cons_mk (WideElems.Trod_stays hl h1 h2 h0 (fun x hx=>hb.same (hp x (by simp[hx])).1) (fun x hx=>(hp x (by simp[hx])).2)) (z0sb hl hb ts vs' ds' q (fun t h=>ht t (by simp[h])) hr (fun x hx=>hp x (by simp[hx])))

theorem z9vc {f:Nat} {fn:Func} {s:ChangeSpec} {c:z5a} {gts:List GT} {tb:TypeId} {W:World} {base:Nat} {args:Array Value} {ds gs:List (DataW H)} {before:List MemPlace}
  (hv:z6a K f c) (hl:laidOutB K.P=true) (hB:z4id B)
  (hts:(fn.params.toList.all fun t=>K.P.readableRec t&&decide (t<K.P.types.size))=true) (hfit:GT.fitsL K.P gts fn.params.toList=true) (hres:fn.resultTypes= #[tb]) (htb:K.P.underlying tb=some .bool)
  (hvars:s.vars=[]) (hspec:∀ds:List (DataW H),ds.length=fn.params.size→s.fn H ds={results:=[.lit (.bool true)],args:=ds})
  (hgl:∀n∈K.N.gs,z9d K.toCon (z5Ja W) W (K.E.T n) (K.N.gnum n) 0)
  (hpre:∀as,z2hd gts as→wtL as≤(ds.map B).sum→c.pre as) (hpost:∀as,c.pre as→c.post as= .lit (.bool true))
  (hval:∀(j:Nat) t v,fn.params[j]? =some t→args[j]? =some v→Value.okWide K.P W .any base t v)
  (hW:DataW.Whole enc K.P fn.params.toList s.vars false W args.toList ds gs before):
  Calls K.P (K.nu f) args W fun e W'=>∃v,e= .returned v∧s.post enc K.P fn false true false false W args v W':=by
 have hW':=hW
 obtain⟨p,q,hA,hV,rfl,hfz,hnd⟩:=hW
 rw[hvars] at hV
 have hgq:gs=[]∧q=[]:=by
  cases gs with
  |nil=>simp only[DataW.TrodVars] at hV;exact⟨rfl,hV⟩
  |cons _ _=>simp only[DataW.TrodVars] at hV
 obtain⟨rfl,rfl⟩:=hgq
 have hts':∀t∈fn.params.toList,K.P.readableRec t=true∧t<K.P.types.size:=fun t ht=>by
  have:=List.all_eq_true.1 hts t ht
  simpa[Bool.and_eq_true] using this
 obtain⟨as,k1,k2,k3⟩:=z6sb hB hl (base:=base) gts fn.params.toList args.toList ds p hA (fun j t v h1 h2=>hval j t v (by simpa using h1) (by simpa using h2)) hfit (fun t ht=>(hts' t ht).2) (fun _=>rfl)
 have hp:=hpre as k1 k3
 have hc:=hv.2 (z5Ja W) W as args.toList hgl k2 hp
 rw[Array.toArray_toList] at hc
 refine hc.mono fun e W' ⟨v,g',he,hfr,hrep,_,_⟩=>⟨v,he,?_⟩
 rw[hpost as hp] at hrep
 simp only[Rep] at hrep
 subst hrep
 have hb:Below W.heap.size W W':=⟨hfr.os,hfr.tape,hfr.output,hfr.size,fun k hk=>hfr.block k hk (fun h=>h)⟩
 have hdl:∀(ts:List TypeId) (vs:List Value) (ds:List (DataW H)) (p:List MemPlace),DataW.TrodAll enc K.P W 0 (fun _=>true) true ts vs ds p→ds.length=ts.length:=by
  intro ts
  induction ts with
  |nil=>
   intro vs ds p h
   obtain⟨_,rfl,_⟩:=trodAll_nil h
   rfl
  |cons t ts ih=>
   intro vs ds p h
   obtain⟨v,vs',d,ds',p',q,rfl,rfl,rfl,h0,hr⟩:=trodAll_cons h
   simp[ih _ _ _ hr]
 have hlen:(ds++[]).length=fn.params.size:=by
  rw[List.append_nil,hdl _ _ _ _ hA]
  simp
 have hsp:=hspec (ds++[]) hlen
 refine z5cb hW' (pa:=p) (pv:=[]) (fun b sp hd=> ?_) (fun sp hs=> ?_) (fun sp hs=> ?_) rfl hb ?_
 ·rw[hsp,hres]
  exact trodAll_mk1 (shut_bool htb true)
 ·rw[hsp,List.append_nil]
  exact z0sb hl hb _ _ _ _ hts' hA (fun x hx=>⟨hW'.lt x (by simpa using hx),hs x (by simpa using hx)⟩)
 ·rw[hsp,hvars]
  simp[DataW.TrodVars]
 ·rw[hres]
  intro j t r h1 h2
  have:=ok_one (f:=fn) (v:= .bool true) hres rfl (okWide_bool_mk (P:=K.P) (W':=W') htb true)
  exact this j t r (by rw[hres];exact h1) (by rw[hres];exact h2)
end
end Go.Abs
end

section
namespace Go.Abs
theorem z2od {cs:List z2a} (h:(GT.int .u8).has cs):∃x:UInt8,cs=[u8 x]:=by
 simp only[GT.has] at h
 obtain⟨n,rfl,h0,h1⟩:=h
 have e0:IntKind.u8.min=0:=rfl
 have e1:IntKind.u8.max=255:=rfl
 rw[e0] at h0
 rw[e1] at h1
 refine⟨UInt8.ofInt n,?_⟩
 have:((UInt8.ofInt n).toNat:Int)=n:=by rw[z8Ma];omega
 rw[u8,this]
theorem z6r {cs:List z2a} (h:(GT.int .i64).has cs):∃x:Int,-9223372036854775808≤x∧x≤9223372036854775807∧cs=[i64 x]:=by
 simp only[GT.has] at h
 obtain⟨n,rfl,h0,h1⟩:=h
 exact⟨n,h0,h1,rfl⟩
theorem z7lc {cs:List z2a} (h:GT.bool.has cs):∃x:Bool,cs=[bo x]:=by
 simp only[GT.has] at h
 exact h
theorem z50c {cs:List z2a} (h:GT.str.has cs):∃l:List UInt8,cs=[st l]:=by
 simp only[GT.has] at h
 obtain⟨s,rfl,_⟩:=h
 exact⟨s.data.toList,by simp[st]⟩
theorem z66b {α:Type} {P:List z2a→Prop} {f:α→List z2a} (h:∀cs,P cs→∃x,cs=f x):∀(ess:List (List z2a)),(∀c∈ess,P c)→∃l:List α,ess=l.map f
 |[],_=>⟨[],rfl⟩
 |c::ess,hc=>by
  obtain⟨x,hx⟩:=h c (hc c (by simp))
  obtain⟨l,hl⟩:=z66b h ess fun d hd=>hc d (by simp[hd])
  exact⟨x::l,by rw[List.map_cons,←hx,←hl]⟩
theorem z0Nb {α:Type} (f:α→z2a):∀l:List α,(l.map fun x=>[f x]).flatten=l.map f
 |[]=>rfl
 |x::l=>by simp[z0Nb f l]
theorem z9eb {n:Nat} {cs:List z2a} (h:(GT.arr n (.int .u8)).has cs):∃l:List UInt8,l.length=n∧cs=bys l:=by
 simp only[GT.has] at h
 obtain⟨ess,hn,h1,rfl⟩:=h
 obtain⟨l,rfl⟩:=z66b (P:=(GT.int .u8).has) (f:=fun x=>[u8 x]) (fun cs h=>z2od h) ess (by simpa only[GT.has] using h1)
 exact⟨l,by simpa using hn,by rw[z0Nb];rfl⟩
@[simp] theorem z8ce (g:GT) (c:z2a) (h:g.row=false):g.top [c]=c:=by simp[GT.top,h]

theorem z6Qa {K:Cx} {W:World} {name:String} {k:IntKind} {zs:List Int} {g:Nat} {cs:List z2a} (h:Lib.TabIs K.P W name k zs) (hg:K.P.globalNamed name=some g) (hc:cs=zs.map fun z=> .lit (.int k z)):
  z9d K.toCon (z5Ja W) W cs g 0:=by
 subst hc
 refine z9d.mk fun i d hd=> ?_
 rw[List.getElem?_map,Option.map_eq_some_iff] at hd
 obtain⟨z,hz,rfl⟩:=hd
 have:=World.var?_cell hg h i
 rw[Nat.zero_add]
 have hcell:W.cell? ⟨g,i,none⟩=some (.int k z):=by rw[this];simp[hz]
 exact⟨z12b hcell,_,hcell,by simp[z6c]⟩
end Go.Abs
end

section
namespace Go.Abs
theorem z5ra {α:Type} {e:GT} {enc:α→List z2a} {P:α→Prop} (he:∀cs,e.has cs→∃a,P a∧cs=enc a) {cs:List z2a} (h:(GT.sl e).has cs):∃l:List α,(∀a∈l,P a)∧cs=[.sl .plain none l.length (l.flatMap enc)]:=by
 obtain⟨ess,h1,rfl,h3⟩:=h
 suffices H:∃l:List α,(∀x∈l,P x)∧l.length=ess.length∧ess.flatten=l.flatMap enc by
  obtain⟨l,k1,k2,k3⟩:=H
  exact⟨l,k1,by rw[k2,k3]⟩
 clear h3
 induction ess with
 |nil=>exact⟨[],by simp,rfl,rfl⟩
 |cons c ess ih=>
  obtain⟨l,k1,k2,k3⟩:=ih fun c hc=>h1 c (by simp[hc])
  obtain⟨x,a0,rfl⟩:=he c (h1 c (by simp))
  refine⟨x::l,fun y hy=> ?_,by simp[k2],by simp[k3]⟩
  rcases List.mem_cons.1 hy with rfl|hy
  ·exact a0
  ·exact k1 y hy
theorem z6ib (l:List Int):(l.flatMap fun x:Int=>[i64 x])=z9p l:=by
 induction l with
 |nil=>rfl
 |cons a l ih=>rw[List.flatMap_cons,ih];rfl
theorem z3oc {cs:List z2a} (h:(GT.st [.int .i64,.int .i64,.int .i64,.int .i64,.int .i64,.int .i64,.str,.sl (.int .i64)]).has cs):∃c:Cmd,c.ok∧cs=z0W c none:=by
 simp only[GT.has,GT.hasL] at h
 obtain⟨a1,r1,rfl,h1,a2,r2,rfl,h2,a3,r3,rfl,h3,a4,r4,rfl,h4,a5,r5,rfl,h5,a6,r6,rfl,h6,a7,r7,rfl,h7,a8,r8,rfl,h8,rfl⟩:=h
 obtain⟨k1,x1,y1,rfl⟩:=z6r (by simpa only[GT.has] using h1)
 obtain⟨k2,x2,y2,rfl⟩:=z6r (by simpa only[GT.has] using h2)
 obtain⟨k3,x3,y3,rfl⟩:=z6r (by simpa only[GT.has] using h3)
 obtain⟨k4,x4,y4,rfl⟩:=z6r (by simpa only[GT.has] using h4)
 obtain⟨k5,x5,y5,rfl⟩:=z6r (by simpa only[GT.has] using h5)
 obtain⟨k6,x6,y6,rfl⟩:=z6r (by simpa only[GT.has] using h6)
 obtain⟨s,rfl⟩:=z50c (by simpa only[GT.has] using h7)
 obtain⟨l,hl,e8⟩:=z5ra (enc:=fun x:Int=>[i64 x]) (P:=z1n) (fun cs hc=>by
  obtain⟨x,x0,x1,rfl⟩:=z6r hc
  exact⟨x,⟨x0,x1⟩,rfl⟩) (by simpa only[GT.has] using h8)
 subst e8
 have:(l.flatMap fun x:Int=>[i64 x])=z9p l:=z6ib l
 rw[this]
 exact⟨⟨k1,k2,k3,k4,k5,k6,s,l⟩,⟨⟨x1,y1⟩,⟨x2,y2⟩,⟨x3,y3⟩,⟨x4,y4⟩,⟨x5,y5⟩,⟨x6,y6⟩,hl⟩,rfl⟩
def z6od:GT:= .st [.int .i64,.int .i64,.int .i64,.int .i64,.int .i64,.int .i64,.str,.sl (.int .i64)]
def z19d:GT:= .st [.int .i64,.int .i64,.int .i64,.int .i64,.int .i64,.int .i64,.int .i64,.bool,.arr 16 (.int .u8)]
theorem z8dd (cs:List z2a) (h:z19d.has cs):∃m:z2q,m.ok∧cs=z6B m:=by
 simp only[z19d,GT.has,GT.hasL] at h
 obtain⟨a1,r1,rfl,h1,a2,r2,rfl,h2,a3,r3,rfl,h3,a4,r4,rfl,h4,a5,r5,rfl,h5,a6,r6,rfl,h6,a7,r7,rfl,h7,a8,r8,rfl,h8,a9,r9,rfl,h9,rfl⟩:=h
 obtain⟨k1,x1,y1,rfl⟩:=z6r (by simpa only[GT.has] using h1)
 obtain⟨k2,x2,y2,rfl⟩:=z6r (by simpa only[GT.has] using h2)
 obtain⟨k3,x3,y3,rfl⟩:=z6r (by simpa only[GT.has] using h3)
 obtain⟨k4,x4,y4,rfl⟩:=z6r (by simpa only[GT.has] using h4)
 obtain⟨k5,x5,y5,rfl⟩:=z6r (by simpa only[GT.has] using h5)
 obtain⟨k6,x6,y6,rfl⟩:=z6r (by simpa only[GT.has] using h6)
 obtain⟨k7,x7,y7,rfl⟩:=z6r (by simpa only[GT.has] using h7)
 obtain⟨b,rfl⟩:=z7lc (by simpa only[GT.has] using h8)
 obtain⟨d,hd,rfl⟩:=z9eb (n:=16) (by simpa only[GT.has] using h9)
 exact⟨⟨k1,k2,k3,k4,k5,k6,k7,b,d⟩,⟨⟨x1,y1⟩,⟨x2,y2⟩,⟨x3,y3⟩,⟨x4,y4⟩,⟨x5,y5⟩,⟨x6,y6⟩,⟨x7,y7⟩,hd⟩,by simp[z6B]⟩
def z4Yd:GT:= .st [.int .i64,.int .i64,.int .i64,.int .i64,z6od,.arr 16 (.int .u8),.sl z19d,.sl (.int .i64)]
theorem z35b {cs:List z2a} (h:(GT.sl (.int .i64)).has cs):∃l:List Int,(∀x∈l,z1n x)∧cs=[.sl .plain none l.length (z9p l)]:=by
 obtain⟨l,hl,e8⟩:=z5ra (enc:=fun x:Int=>[i64 x]) (P:=z1n) (fun cs hc=>by
  obtain⟨x,x0,x1,rfl⟩:=z6r hc
  exact⟨x,⟨x0,x1⟩,rfl⟩) h
 subst e8
 have:(l.flatMap fun x:Int=>[i64 x])=z9p l:=z6ib l
 rw[this]
 exact⟨l,hl,rfl⟩
theorem z05b {cs:List z2a} (h:z4Yd.has cs):∃x:z3h,x.ok∧cs=z8j none none none x:=by
 rw[z4Yd,GT.has] at h
 simp only[GT.hasL] at h
 obtain⟨a1,r1,rfl,h1,a2,r2,rfl,h2,a3,r3,rfl,h3,a4,r4,rfl,h4,a5,r5,rfl,h5,a6,r6,rfl,h6,a7,r7,rfl,h7,a8,r8,rfl,h8,rfl⟩:=h
 obtain⟨k1,x1,y1,rfl⟩:=z6r h1
 obtain⟨k2,x2,y2,rfl⟩:=z6r h2
 obtain⟨k3,x3,y3,rfl⟩:=z6r h3
 obtain⟨k4,x4,y4,rfl⟩:=z6r h4
 obtain⟨c,hc,rfl⟩:=z3oc h5
 obtain⟨d,hd,rfl⟩:=z9eb (n:=16) h6
 obtain⟨m,hm,rfl⟩:=z5ra (enc:=z6B) z8dd h7
 obtain⟨g,hg,rfl⟩:=z35b h8
 exact⟨⟨k1,k2,k3,k4,c,d,m,g⟩,⟨⟨x1,y1⟩,⟨x2,y2⟩,⟨x3,y3⟩,⟨x4,y4⟩,hc,hd,hm,hg⟩,by simp[z8j,z9n]⟩
theorem z66c (l:List UInt8):wt (st l)=l.length+1:=by simp[st,wt]
theorem z46b:∀(cs:List z2a),(∀c∈cs,1≤wt c)→cs.length≤wtL cs
 |[],_=>Nat.zero_le _
 |c::cs,h=>by
  have:=z46b cs (fun d hd=>h d (by simp[hd]))
  have:=h c (by simp)
  rw[wtL,List.length_cons];omega
theorem z1Ob (l:List Int):l.length≤wtL (z9p l):=by
 have:=z46b (z9p l) (fun c hc=>by obtain⟨x,_,rfl⟩:=List.mem_map.1 hc;exact Nat.le_refl 1)
 simpa[z9p] using this
theorem z1Yc (l:List z2q):l.length≤wtL (z9n l):=by
 induction l with
 |nil=>exact Nat.zero_le _
 |cons a l ih=>
  have e:z9n (a::l)=z6B a++z9n l:=rfl
  have:1≤wtL (z6B a):=by
   have e2:z6B a=i64 a.id::(z6B a).tail:=rfl
   rw[e2,wtL,show wt (i64 a.id)=1 from rfl];omega
  rw[e,z3D,List.length_cons];omega
theorem z7Fc (x:z3h):wE x≤wtL (z8j none none none x):=by
 have h1:=z1Ob x.cmd.list
 have h2:=z1Yc x.made
 have h3:=z1Ob x.gone
 have e:z8j none none none x=[i64 x.time,i64 x.kind,i64 x.req,i64 x.mode]++([i64 x.cmd.kind,i64 x.cmd.key,i64 x.cmd.other,i64 x.cmd.type,i64 x.cmd.uses,i64 x.cmd.life]++([st x.cmd.data,.sl .plain none x.cmd.list.length (z9p x.cmd.list)]++(bys x.dig++[.sl .plain none x.made.length (z9n x.made),.sl .plain none x.gone.length (z9p x.gone)]))):=by simp[z8j,z0W]
 rw[e,z3D,z3D,z3D,z3D]
 have w1:wtL [st x.cmd.data,.sl .plain none x.cmd.list.length (z9p x.cmd.list)]=x.cmd.data.length+1+(wtL (z9p x.cmd.list)+1):=by
  rw[wtL,wtL,wtL,z66c,show wt (.sl .plain none x.cmd.list.length (z9p x.cmd.list))=wtL (z9p x.cmd.list)+1 by simp only[wt]]
 have w2:wtL [.sl .plain none x.made.length (z9n x.made),.sl .plain none x.gone.length (z9p x.gone)]=wtL (z9n x.made)+1+(wtL (z9p x.gone)+1):=by
  rw[wtL,wtL,wtL,show wt (.sl .plain none x.made.length (z9n x.made))=wtL (z9n x.made)+1 by simp only[wt],show wt (.sl .plain none x.gone.length (z9p x.gone))=wtL (z9p x.gone)+1 by simp only[wt]]
 rw[w1,w2]
 unfold wE
 have:=Nat.div_le_self x.cmd.data.length 100
 omega
theorem z4bd (l:List z3h):z4wa l≤wtL (z6h l):=by
 induction l with
 |nil=>exact Nat.zero_le _
 |cons a l ih=>
  have e:z6h (a::l)=z8j none none none a++z6h l:=rfl
  have e2:z4wa (a::l)=wE a+z4wa l:=by simp[z4wa]
  have:=z7Fc a
  rw[e,z3D,e2];omega
theorem z0Wc (l:List UInt8):l.length≤wtL (bys l):=by
 have:=z46b (bys l) (fun c hc=>by obtain⟨x,_,rfl⟩:=List.mem_map.1 hc;exact Nat.le_refl 1)
 simpa[bys] using this
theorem z96c {cs:List z2a} (h:(GT.sl (.arr 16 (.int .u8))).has cs):∃l:List (List UInt8),z2p l∧cs=[z5w none l]:=by
 obtain⟨l,hl,rfl⟩:=z5ra (enc:=bys) (P:=fun d:List UInt8=>d.length=16) (fun cs hc=>by obtain⟨d,hd,rfl⟩:=z9eb (n:=16) hc;exact⟨d,hd,rfl⟩) h
 exact⟨l,hl,by rw[z5w,dgs,bys,List.map_flatten,List.flatMap_def];rfl⟩
def z43d:GT:= .st [.st [.int .i64,.sl (.arr 16 (.int .u8))],.sl z4Yd]
theorem z88c {cs:List z2a} (h:z43d.has cs):∃(s:Int) (r:List (List UInt8)) (l:List z3h),inI s∧z2p r∧okL l∧cs=[i64 s,z5w none r,z5n none l]:=by
 rw[z43d,GT.has] at h
 simp only[GT.hasL] at h
 obtain⟨a1,r1,rfl,h1,a2,r2,rfl,h2,rfl⟩:=h
 rw[GT.has] at h1
 simp only[GT.hasL] at h1
 obtain⟨b1,q1,rfl,g1,b2,q2,rfl,g2,rfl⟩:=h1
 obtain⟨s,s0,s1,rfl⟩:=z6r g1
 obtain⟨r,hr,rfl⟩:=z96c g2
 obtain⟨l,hl,rfl⟩:=z5ra (enc:=z8j none none none) (P:=z3h.ok) (fun cs hc=>z05b hc) h2
 exact⟨s,r,l,⟨s0,s1⟩,hr,hl,rfl⟩
theorem z8Hd {s:Int} {r:List (List UInt8)} {l:List z3h} {x:z3h} (hs:inI s) (hr:z2p r) (hl:okL l) (hx:x.ok) (hb:wt (z9cc s none none r l)+wt (.agg (z8j none none none x))≤1048576):inL s r l x:=by
 rw[show wt (.agg (z8j none none none x))=wtL (z8j none none none x) by simp only[wt],show wt (z9cc s none none r l)=wt (i64 s)+(wtL (bys (dgs r))+1+(wtL (z6h l)+1+0)) by simp only[z9cc,z5w,z5n,wt,wtL]] at hb
 have h1:=z4bd l
 have h2:=z7Fc x
 have h3:=z0Wc (dgs r)
 rw[z0q hr] at h3
 exact⟨hs,hr,by omega,hl,by omega,hx,by omega⟩
theorem z01b (as:List z2a) (h:z2hd [z43d,z4Yd,.int .i64] as) (hb:wtL as≤1048576):z13b.pre as:=by
 simp only[z2hd] at h
 obtain⟨c0,_,rfl,h0,c1,_,rfl,h1,c2,_,rfl,h2,rfl⟩:=h
 obtain⟨s,r,l,hs,hr,hl,rfl⟩:=z88c h0
 obtain⟨x,hx,rfl⟩:=z05b h1
 obtain⟨m,m0,m1,rfl⟩:=z6r h2
 exact⟨s,r,l,x,m,z8Hd hs hr hl hx (by
  change wt (z9cc s none none r l)+(wt (.agg (z8j none none none x))+(wt (i64 m)+0))≤1048576 at hb
  omega),⟨m0,m1⟩,rfl⟩
end Go.Abs
end
