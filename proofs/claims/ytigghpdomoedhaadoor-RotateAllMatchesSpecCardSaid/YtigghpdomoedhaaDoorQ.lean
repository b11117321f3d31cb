/- Lemmas: an abstract interpreter, and what the functions compute. -/
import Derived.Test.YtigghpdomoedhaaDoorL
import Derived.Test.YtigghpdomoedhaaDoorT
set_option linter.unusedSimpArgs false
set_option linter.unusedVariables false
set_option linter.unusedSectionVars false
section
namespace Go.Abs
set_option maxRecDepth 100000
def z8cc (l:List z2d):z2a:= .sl (.own 9) none l.length (z1k l)
def gKs (d:z2a):List z2d:=z7ka (gSn d) (gCs d)
theorem z1da (l:List z2d):∀c∈z1k l,z1f c=true∧z9c c:=fun c hc=>⟨(z1i _).1 (z5Za l) c hc,by
 obtain⟨k,hk⟩:=z2za hc
 exact(z3eb k).2 trivial c hk⟩
def z0ba:z4a:=⟨fun ds=>∃(nl:Option Bool) (l:List z2d),z90a l∧ds=[z84 nl l],fun ds=>z8cc (gKs (nth ds 0))⟩
theorem z2pb {nl:Option Bool} {l:List z2d} (h:z90a l):z0ba.pre [.sl .plain nl l.length (z1k l)]=True:=eq_true ⟨nl,l,h,rfl⟩
theorem z2xa (nl:Option Bool) (l:List z2d):z0ba.post [.sl .plain nl l.length (z1k l)]= .sl (.own 9) none l.length (z1k l):=by
 show z8cc (z7ka l.length (z1k l))=_
 rw[z52];rfl
def z9lb:z4a:=⟨fun ds=>z0ba.pre ds∧∀d,ds[0]? =some d→z6Ca d,z0ba.post⟩
set_option maxHeartbeats 4000000 in
theorem z2Qb (E:Env):∀ds,z9lb.pre ds→ds.length=z1m.n∧awp E z1m.body (z2q z1m.res (z9lb.post ds)) (z9b z1m.wr ds):=by
 rintro _ ⟨⟨nl,l,hn,rfl⟩,hk⟩
 have hk:=hk _ rfl
 have hn:l.length≤100000000:=hn
 rw[show z9lb.post [z84 nl l]=z8cc l from z2xa nl l]
 unfold z84 at*
 match nl,hk with
 |some true,hk=>
  have h0:l=[]:=List.length_eq_zero_iff.1 hk.1
  subst h0
  simp(maxSteps:=1000000) (disch:=first|omega|(simp;done)|(simp;omega)) [z8a,z1a,z0a,z1m,z8cc,kT]
  rfl
 |some false,_=>
  simp(maxSteps:=1000000) (disch:=first|omega|(simp;done)|(simp;omega)) [z8a,z1a,z0a,z1m,z3Q,z8cc,kF]
  exact⟨by omega,by omega,z1da l⟩
theorem z0rb:∀ds d b,z0ba.pre ds→ds[0]? =some d→z0ba.pre (ds.set 0 (z9Ea b d))∧z0ba.post (ds.set 0 (z9Ea b d))=z0ba.post ds:=by
 rintro _ d b ⟨nl,l,hn,rfl⟩ hd
 simp only[List.getElem?_cons_zero,Option.some.injEq] at hd
 subst hd
 cases nl with
 |none=>exact⟨⟨some b,l,hn,rfl⟩,rfl⟩
 |some c=>exact⟨⟨some c,l,hn,rfl⟩,rfl⟩
def z5za:z4a:=⟨z0ba.pre,fun ds=>match nth ds 0 with| .sl _ nl n cs=> .sl .clip nl n cs|d=>d⟩
theorem z5xb {nl:Option Bool} {l:List z2d} (h:z90a l):z5za.pre [.sl .plain nl l.length (z1k l)]=True:=eq_true ⟨nl,l,h,rfl⟩
theorem z8wa (nl:Option Bool) (l:List z2d):z5za.post [.sl .plain nl l.length (z1k l)]= .sl .clip nl l.length (z1k l):=rfl
theorem z8eb (l:List z2d):(z1k l).take (l.length*9)=z1k l:=by rw[z38,List.take_length]
theorem z8Xb (E:Env):∀ds,z5za.pre ds→ds.length=z1p.n∧awp E z1p.body (z2q z1p.res (z5za.post ds)) (z9b z1p.wr ds):=by
 rintro _ ⟨nl,l,hn,rfl⟩
 have hn:l.length≤100000000:=hn
 rw[show z5za.post [z84 nl l]= .sl .clip nl l.length (z1k l) from z8wa nl l]
 unfold z84 at*
 simp(maxSteps:=1000000) (disch:=first|omega|(simp;done)|(simp;omega)) [z8a,z1a,z0a,z1p,kT,z8eb]
 skip
end Go.Abs
end

section
namespace Go.Abs
def thB (b i id:Nat) (x:Option (List z2a)) (box:List (Nat×Option (List z2a))):List (Nat×Option (List z2a)):=
 match x with|some bs=>(match bs.getD i .undef with| .sl (.own e) _ n cs=>(b,some (bs.set i (.bv id e 0 n n)))::(id,some cs)::box|_=>box)|none=>box
@[simp] theorem z9vc (b i id:Nat) (o e:List (Nat×z2a)) (box:List (Nat×Option (List z2a))):z5b (.thawB b i id) ⟨o,e,box⟩=⟨o,e,thB b i id (ASt.getB ⟨o,e,box⟩ b) box⟩:=by
 simp only[z5b,thB]
 split
 ·split<;>simp_all
 ·simp_all
@[simp] theorem z2Sc (b id e n:Nat) (nl:Option Bool) (a:z2a) (cs:List z2a) (box:List (Nat×Option (List z2a))):thB b 1 id (some [a,.sl (.own e) nl n cs]) box=(b,some [a,.bv id e 0 n n])::(id,some cs)::box:=rfl
def thS (s id:Nat) (d:z2a) (st:ASt):ASt:=match d with| .sl (.own e) _ n cs=>{st with env:=(s,.bv id e 0 n n)::st.env,box:=(id,some cs)::st.box}|_=>st
@[simp] theorem z3Pc (s id:Nat) (o e:List (Nat×z2a)) (box:List (Nat×Option (List z2a))):z5b (.thaw s id) ⟨o,e,box⟩=thS s id (ASt.get ⟨o,e,box⟩ s) ⟨o,e,box⟩:=rfl
@[simp] theorem z9Qc (s id k n:Nat) (nl:Option Bool) (cs:List z2a) (o e:List (Nat×z2a)) (box:List (Nat×Option (List z2a))):thS s id (.sl (.own k) nl n cs) ⟨o,e,box⟩=⟨o,(s,.bv id k 0 n n)::e,(id,some cs)::box⟩:=rfl
@[simp] theorem z4Fc (id o:Nat):z3aa (.bp id o)=true:=rfl
@[simp] theorem z81b:z3aa .undef=true:=rfl
@[simp] theorem z6vc (v:Value):z3aa (.lit v)=true:=rfl
@[simp] theorem z5Jc (id e o n c:Nat):z3aa (.bv id e o n c)=true:=rfl
@[simp] theorem z51a (ids:List Nat) (bx:Nat→List z2a) (k:z2d):z5D ids bx (z3j k)=z3j k:=rfl
theorem z6Ea (ids:List Nat) (bx:Nat→List z2a):∀a b:List z2a,z5D ids bx (a++b)=z5D ids bx a++z5D ids bx b
 |[],b=>rfl
 |x::a,b=>by show z49 ids bx x::z5D ids bx (a++b)=_;rw[z6Ea ids bx a b];rfl
@[simp] theorem z1Wa (ids:List Nat) (bx:Nat→List z2a):∀l:List z2d,z5D ids bx (z1k l)=z1k l
 |[]=>rfl
 |k::l=>by rw[z1z,z6Ea,z51a,z1Wa ids bx l]
theorem z7mb (k:z2d):∀c∈z3j k,z3aa c=true:=by
 intro c hc
 simp only[z3j,List.mem_cons,List.not_mem_nil,or_false] at hc
 rcases hc with rfl|rfl|rfl|rfl|rfl|rfl|rfl|rfl|rfl<;>rfl
@[simp] theorem z8qc (k:z2d):(∀c∈z3j k,z3aa c=true)↔True:=⟨fun _=>trivial,fun _=>z7mb k⟩
@[simp] theorem z6Cc (n:Int):z3aa (i64 n)=true:=rfl
@[simp] theorem z3Ic (s:List UInt8):z3aa (st s)=true:=rfl
@[simp] theorem z3Ac (ids:List Nat) (bx:Nat→List z2a) (n:Int):z49 ids bx (i64 n)=i64 n:=rfl
theorem z2aa:∀a b:List z2a,z1b (a++b)=(z1b a&&z1b b)
 |[],b=>rfl
 |x::a,b=>by show(z2b x&&z1b (a++b))=_;rw[z2aa a b,←Bool.and_assoc];rfl
@[simp] theorem z3vb:∀l:List z2d,z1b (z1k l)=true
 |[]=>rfl
 |k::l=>by rw[z1z,z2aa,z3vb l];rfl
end Go.Abs
end

section
namespace Go.Abs
set_option maxRecDepth 100000
theorem z1Eb (nl:Option Bool) (t:z2k) (x:z2a):splice (z0d nl t) 1 [x]=[i64 t.next,x]:=rfl
theorem z0w (a b c d:z2a):splice [a,b] 0 [c,d]=[c,d]:=rfl
theorem z3t (a b:z2a) (nl:Option Bool) (t:z2k):splice [a,b] 0 (z0d nl t)=z0d nl t:=rfl
theorem z67 (l:List z2d) (i:Nat) (k:z2d):(z1k (l.set i k)).take (l.length*9)=z1k (l.set i k):=List.take_of_length_le (by simp)
abbrev z4ba:z4a:=z2Lc (some false)
set_option maxHeartbeats 8000000 in
theorem z1ic (E:Env) (h246:E.G 246=z8Ja) (h242:E.G 242=z8hb) (h247:E.G 247=z0ba):∀ds,z4ba.pre ds→ds.length=z9q.n∧awp E z9q.body (z2q z9q.res (z4ba.post ds)) (z9b z9q.wr ds):=by
 rintro _ ⟨nl,t,k,ht,hk,rfl⟩
 rw[z4ba,z8ba]
 have hlen:t.keys.length≤100000000:=ht.2
 have e1:=z2ka hk
 have e2:=z9S k
 have f1:=z31a (nl:=nl) (t:=t) k.id ht
 have f2:=z3va nl t k.id
 rw[z80b] at f2
 have c1:=z2pb (nl:=nl) ht.2
 have c2:=z2xa nl t.keys
 cases ho:okK k with
 |false=>
  have e:z7aa t k=(⟨0,[]⟩,1):=by simp[z7aa,ho]
  rw[e,z3ga]
  rw[ho] at e2
  simp(maxSteps:=1000000) (disch:=first|omega|(simp;done)|(simp;omega)) [z8a,z1a,z0a,z9q,z1A,h246,e1,e2,kT,kF,dT,dF]
  exact⟨Nat.le_refl _,rfl⟩
 |true=>
  rw[ho] at e2
  by_cases hp:k.par<t.next
  ·cases hb:z40 t.keys k.id with
   |false=>
    have e:z7aa t k=(⟨0,[]⟩,11):=by simp[z7aa,ho,hp,hb]
    rw[e,z3ga]
    rw[hb] at f2
    simp only[Bool.false_eq_true,if_false] at f2
    simp(maxSteps:=1000000) (disch:=first|omega|(simp;done)|(simp;omega)) [z8a,z1a,z0a,z9q,z1A,h246,h242,e1,e2,f1,f2,hp,kT,kF,dT,dF]
    exact⟨Nat.le_refl _,rfl⟩
   |true=>
    have hn:lbK t.keys k.id<t.keys.length:=by
     simp only[z40,Bool.and_eq_true,decide_eq_true_eq] at hb;exact hb.1
    have e:z7aa t k=(⟨t.next,t.keys.set (lbK t.keys k.id) k⟩,0):=by simp[z7aa,ho,hp,hb]
    rw[e,z3ga]
    rw[hb] at f2
    simp only[if_true] at f2
    have ks:=z4za k hn
    generalize lbK t.keys k.id=m at*
    simp(maxSteps:=1000000) (disch:=first|omega|(simp;done)|(simp;omega)) [z8a,z1a,z0a,z9q,z1A,h246,h242,e1,e2,f1,f2,hp,kT,kF,dT,dF]
    rw[z65]
    simp(maxSteps:=1000000) (disch:=first|omega|(simp;done)|(simp;omega)) [z8a,z1a,z0a,h247,c1,c2,kT,kF,dT,dF,z1Eb,z0w,ks,z49,z5D,z67,z67]
    exact⟨⟨by omega,rfl⟩,hn,by omega,by simp[z0d]⟩
  ·have e:z7aa t k=(⟨0,[]⟩,1):=by simp[z7aa,ho,hp]
   rw[e,z3ga]
   simp(maxSteps:=1000000) (disch:=first|omega|(simp;done)|(simp;omega)) [z8a,z1a,z0a,z9q,z1A,h246,e1,e2,hp,kT,kF,dT,dF]
   exact⟨Nat.le_refl _,rfl⟩
end Go.Abs
end

section
namespace Go.Abs
set_option maxRecDepth 100000
theorem z3yb (k:z2d) (n:Int):splice (z3j k) 0 [i64 n]=z3j {k with id:=n}:=rfl
theorem z5wa (k:z2d):z1k [k]=z3j k:=by simp[z1k]
theorem z3ma (l:List z2d) (k:z2d):z1k l++z3j k=z1k (l++[k]):=by rw[z9Aa,z5wa]
theorem z7Cb (c:Prop) [Decidable c] (n:Nat) (cs:List z2a):dem (.sl (if c then .own 9 else .plain) none n cs)= .sl .plain none n cs:=by split<;>rfl
theorem z1q (a b:z2a):splice [a] 0 [b]=[b]:=rfl
theorem z1eb (k:z2d):∀c∈z3j k,z1f c=true∧z9c c:=fun c hc=>z1da [k] c (by rw[z5wa];exact hc)
abbrev z8Xa:z4a:=z5mb none
set_option maxHeartbeats 8000000 in
theorem z9oc (E:Env) (h246:E.G 246=z8Ja) (h248:E.G 248=z5za):∀ds,z8Xa.pre ds→ds.length=z6o.n∧awp E z6o.body (z2q z6o.res (z8Xa.post ds)) (z9b z6o.wr ds):=by
 rintro _ ⟨nl,t,k,ht,hi,hk,rfl⟩
 rw[z8Xa,z3Da]
 have hlen:t.keys.length≤100000000:=ht.2
 have hi1: -9223372036854775808≤t.next:=hi.1
 have hi2:t.next≤9223372036854775807:=hi.2
 have e1:=z2ka hk
 have e2:=z9S k
 have c1:=z5xb (nl:=nl) ht.2
 have c2:=z8wa nl t.keys
 cases ho:okK k with
 |false=>
  have e:z0S t k=(⟨0,[]⟩,0,1):=by simp[z0S,ho]
  rw[e,z3ga]
  rw[ho] at e2
  simp(maxSteps:=1000000) (disch:=first|omega|(simp;done)|(simp;omega)) [z8a,z1a,z0a,z6o,z8w,h246,e1,e2,kT,kF,dT,dF]
  exact⟨Nat.le_refl _,rfl⟩
 |true=>
  rw[ho] at e2
  by_cases hp:k.par<t.next
  ·by_cases h1:t.keys.length<4096
   ·by_cases h2:t.next<z7N
    ·have e:z0S t k=(⟨t.next+1,t.keys++[{k with id:=t.next}]⟩,t.next,0):=by simp[z0S,ho,hp,h1,h2]
     rw[e,z3ga]
     have h2':t.next<2147483647:=h2
     have h1':(t.keys.length:Int)<4096:=by omega
     simp(maxSteps:=1000000) (disch:=first|omega|(simp;done)|(simp;omega)) [z8a,z1a,z0a,z6o,h246,e1,e2,hp,h1,h1',h2',kT,kF,dT,dF]
     rw[z8w]
     simp(maxSteps:=1000000) (disch:=first|omega|(simp;done)|(simp;omega)) [z8a,z1a,z0a,z3yb,h248,c1,c2,kT,kF,dT,dF,z7Cb,z1q,z0w,z6i,z3ma,z0d]
     exact⟨by omega,by omega,z1eb _⟩
    ·have e:z0S t k=(⟨0,[]⟩,0,2):=by simp[z0S,ho,hp,h2]
     have h2':¬t.next<2147483647:=h2
     have h1':(t.keys.length:Int)<4096:=by omega
     rw[e,z3ga]
     simp(maxSteps:=1000000) (disch:=first|omega|(simp;done)|(simp;omega)) [z8a,z1a,z0a,z6o,z8w,h246,e1,e2,hp,h1,h1',h2',kT,kF,dT,dF]
     exact⟨Nat.le_refl _,rfl⟩
   ·have e:z0S t k=(⟨0,[]⟩,0,2):=by simp[z0S,ho,hp,h1]
    have h1':¬(t.keys.length:Int)<4096:=by omega
    rw[e,z3ga]
    simp(maxSteps:=1000000) (disch:=first|omega|(simp;done)|(simp;omega)) [z8a,z1a,z0a,z6o,z8w,h246,e1,e2,hp,h1,h1',kT,kF,dT,dF]
    exact⟨Nat.le_refl _,rfl⟩
  ·have e:z0S t k=(⟨0,[]⟩,0,1):=by simp[z0S,ho,hp]
   rw[e,z3ga]
   simp(maxSteps:=1000000) (disch:=first|omega|(simp;done)|(simp;omega)) [z8a,z1a,z0a,z6o,z8w,h246,e1,e2,hp,kT,kF,dT,dF]
   exact⟨Nat.le_refl _,rfl⟩
end Go.Abs
end

section
namespace Go.Abs
set_option maxRecDepth 100000
theorem z71a (nl:Option Bool) (t:z2k) (x:z2a):(z0d nl t).set 1 x=[i64 t.next,x]:=rfl
theorem z7fb (a b c:z2a):splice [a,b] 0 [c]=[c,b]:=rfl
theorem z3kc (a b c d e f:z2a):splice [a,b,c,d] 0 [e,f]=[e,f,c,d]:=rfl
theorem z1nc (a b c d e:z2a):splice [a,b,c,d] 2 [e]=[a,b,e,d]:=rfl
theorem z6dc (a b c d e f g h:z2a):splice [a,b,c,d] 0 [e,f,g,h]=[e,f,g,h]:=rfl
theorem z02a (a b c d e:Nat):z6q (.bv a b c d e)=[.bv a b c d e]:=rfl
theorem z89a (a b c:z2a):splice [a,b] 1 [c]=[a,c]:=rfl
set_option maxHeartbeats 8000000 in
theorem z7Qb (E:Env) (h273:E.G 273=z8Ja) (h279:E.G 279=atC):∀ds,z4ba.pre ds→ds.length=z5e.n∧awp E z5e.body (z2q z5e.res (z4ba.post ds)) (z9b z5e.wr ds):=by
 rintro _ ⟨nl,t,k,ht,hk,rfl⟩
 rw[z4ba,z8ba]
 have hlen:t.keys.length≤100000000:=ht.2
 have e1:=z2ka hk
 have e2:=z9S k
 have f1:=z0Ab (nl:=nl) (t:=t) k.id ht
 have f2:=z4Ha nl t k.id
 cases ho:okK k with
 |false=>
  have e:z7aa t k=(⟨0,[]⟩,1):=by simp[z7aa,ho]
  rw[e,z3ga]
  rw[ho] at e2
  simp(maxSteps:=1000000) (disch:=first|omega|(simp;done)|(simp;omega)) [z8a,z1a,z0a,z5e,z8m,h273,e1,e2,kT,kF,dT,dF]
  exact⟨Nat.le_refl _,rfl⟩
 |true=>
  rw[ho] at e2
  by_cases hp:k.par<t.next
  ·cases hb:z40 t.keys k.id with
   |false=>
    have e:z7aa t k=(⟨0,[]⟩,11):=by simp[z7aa,ho,hp,hb]
    rw[e,z3ga]
    rw[hb] at f2
    simp only[Bool.false_eq_true,if_false] at f2
    simp(maxSteps:=1000000) (disch:=first|omega|(simp;done)|(simp;omega)) [z8a,z1a,z0a,z5e,z8m,h273,h279,e1,e2,f1,f2,hp,kT,kF,dT,dF]
    exact⟨Nat.le_refl _,rfl⟩
   |true=>
    have hn:lbK t.keys k.id<t.keys.length:=by
     simp only[z40,Bool.and_eq_true,decide_eq_true_eq] at hb;exact hb.1
    have e:z7aa t k=(⟨t.next,t.keys.set (lbK t.keys k.id) k⟩,0):=by simp[z7aa,ho,hp,hb]
    rw[e,z3ga]
    rw[hb] at f2
    simp only[if_true] at f2
    have ks:=z4za k hn
    generalize lbK t.keys k.id=m at*
    simp(maxSteps:=1000000) (disch:=first|omega|(simp;done)|(simp;omega)) [z8a,z1a,z0a,z5e,z8m,h273,h279,e1,e2,f1,f2,hp,kT,kF,dT,dF]
    rw[z1I]
    simp(maxSteps:=1000000) (disch:=first|omega|(simp;done)|(simp;omega)) [z8a,z1a,z0a,kT,kF,dT,dF,z1Eb,z0w,ks,z49,z5D,z67,z71a,z1q,z02a,z7fb,z89a]
    exact⟨⟨by omega,by omega,z1da _⟩,⟨by omega,rfl⟩,hn,by omega,by simp[z0d]⟩
  ·have e:z7aa t k=(⟨0,[]⟩,1):=by simp[z7aa,ho,hp]
   rw[e,z3ga]
   simp(maxSteps:=1000000) (disch:=first|omega|(simp;done)|(simp;omega)) [z8a,z1a,z0a,z5e,z8m,h273,e1,e2,hp,kT,kF,dT,dF]
   exact⟨Nat.le_refl _,rfl⟩
abbrev z1ma:z4a:=z2Pb none
set_option maxHeartbeats 8000000 in
theorem z0Wb (E:Env) (h273:E.G 273=z8Ja):∀ds,z1ma.pre ds→ds.length=z5d.n∧awp E z5d.body (z2q z5d.res (z1ma.post ds)) (z9b z5d.wr ds):=by
 rintro _ ⟨nl,t,k,ht,hi,hk,rfl⟩
 rw[z1ma,z7Da]
 have hlen:t.keys.length≤100000000:=ht.2
 have hi1: -9223372036854775808≤t.next:=hi.1
 have hi2:t.next≤9223372036854775807:=hi.2
 have e1:=z2ka hk
 have e2:=z9S k
 cases ho:okK k with
 |false=>
  have e:z0S t k=(⟨0,[]⟩,0,1):=by simp[z0S,ho]
  rw[e]
  rw[ho] at e2
  simp(maxSteps:=1000000) (disch:=first|omega|(simp;done)|(simp;omega)) [z8a,z1a,z0a,z5d,z9k,h273,e1,e2,kT,kF,dT,dF]
  exact⟨by decide,rfl⟩
 |true=>
  rw[ho] at e2
  by_cases hp:k.par<t.next
  ·by_cases h1:t.keys.length<4096
   ·by_cases h2:t.next<z7N
    ·have e:z0S t k=(⟨t.next+1,t.keys++[{k with id:=t.next}]⟩,t.next,0):=by simp[z0S,ho,hp,h1,h2]
     rw[e]
     have h2':t.next<2147483647:=h2
     have h1':(t.keys.length:Int)<4096:=by omega
     simp(maxSteps:=1000000) (disch:=first|omega|(simp;done)|(simp;omega)) [z8a,z1a,z0a,z5d,z9k,h273,e1,e2,hp,h1,h1',h2',kT,kF,dT,dF]
     rw[z8H]
     simp(maxSteps:=1000000) (disch:=first|omega|(simp;done)|(simp;omega)) [z8a,z1a,z0a,z3yb,kT,kF,dT,dF,z7Cb,z1q,z0w,z6i,z7fb,z89a,z3kc,z1nc,z6dc,z3ma,z0d]
     exact⟨⟨by omega,by omega,z1da _⟩,by omega,by omega,z1eb _⟩
    ·have e:z0S t k=(⟨0,[]⟩,0,2):=by simp[z0S,ho,hp,h2]
     have h2':¬t.next<2147483647:=h2
     have h1':(t.keys.length:Int)<4096:=by omega
     rw[e]
     simp(maxSteps:=1000000) (disch:=first|omega|(simp;done)|(simp;omega)) [z8a,z1a,z0a,z5d,z9k,h273,e1,e2,hp,h1,h1',h2',kT,kF,dT,dF]
     exact⟨by decide,rfl⟩
   ·have e:z0S t k=(⟨0,[]⟩,0,2):=by simp[z0S,ho,hp,h1]
    have h1':¬(t.keys.length:Int)<4096:=by omega
    rw[e]
    simp(maxSteps:=1000000) (disch:=first|omega|(simp;done)|(simp;omega)) [z8a,z1a,z0a,z5d,z9k,h273,e1,e2,hp,h1,h1',kT,kF,dT,dF]
    exact⟨by decide,rfl⟩
  ·have e:z0S t k=(⟨0,[]⟩,0,1):=by simp[z0S,ho,hp]
   rw[e]
   simp(maxSteps:=1000000) (disch:=first|omega|(simp;done)|(simp;omega)) [z8a,z1a,z0a,z5d,z9k,h273,e1,e2,hp,kT,kF,dT,dF]
   exact⟨by decide,rfl⟩
end Go.Abs
end
